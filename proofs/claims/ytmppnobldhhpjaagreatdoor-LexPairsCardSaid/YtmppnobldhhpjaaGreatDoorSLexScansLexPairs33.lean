/-
  Lemmas for the law LexScansLexPairs.
-/
import Derived.Test.YtmppnobldhhpjaaGreatDoorSLexScansLexPairs19
import Derived.Test.YtmppnobldhhpjaaGreatDoorSLexScansLexPairs28
import Derived.Test.YtmppnobldhhpjaaGreatDoorSLexScansLexPairs32
import Derived.Test.YtmppnobldhhpjaaGreatDoorSLexScansLexPairs14
import Derived.Test.YtmppnobldhhpjaaGreatDoorSLexScansLexPairs13
section
namespace Go.Proofs.YtmppnobldhhpjaaGreatDoor.Pr
set_option linter.unusedVariables false
set_option linter.unusedSimpArgs false
open Go.RowKit Go.Proofs.YtmppnobldhhpjaaGreatDoorW.PrintWords Go.Proofs.YtmppnobldhhpjaaGreatDoorW.PrintLast Go.Proofs.YtmppnobldhhpjaaGreatDoorW.PrintMore
def lwrd2.T2 : Bool × List (List Nat × List Nat) := (true, [([], []), ([0], [0]), ([1], [1]), ([2], [2]), ([], []), ([4], [4]), ([5], [5]), ([6], [6]), ([], []), ([8], [8]), ([7, 9], [7, 9]), ([3, 10], [3, 10]), ([11], [11])])
def lwrd2.B2 : List Nat := [0, 1, 3, 7, 0, 16, 48, 112, 0, 256, 1008, 2047, 4095]
theorem lwrd2.tab2 : rtab .any (opsOf Tryz.f30 2) = lwrd2.T2 := by kernel_rfl
theorem lwrd2.bits2 : waitsOk lwrd2.T2.2 lwrd2.B2 = true := by kernel_rfl
theorem idx_mem (l : List UInt8) (c : UInt8) : decide (0 ≤ Lib.indexByte l c) = l.contains c := by
  have hge := Lib.indexByte_ge l c
  by_cases h : Lib.indexByte l c = -1
  · rw [decide_eq_false (by omega)]
    symm
    rw [Bool.eq_false_iff]
    intro hm
    obtain ⟨k, hk⟩ := List.mem_iff_getElem?.1 (List.contains_iff_mem.1 hm)
    exact Lib.indexByte_none h k hk
  · obtain ⟨o, ho⟩ : ∃ o : Nat, Lib.indexByte l c = o := ⟨(Lib.indexByte l c).toNat, by omega⟩
    rw [decide_eq_true (by omega)]
    symm
    exact List.contains_iff_mem.2 (List.mem_iff_getElem?.2 ⟨o, (Lib.indexByte_some ho).1⟩)
theorem contains36_calls (l : List UInt8) (w : World) : Calls Tryz.prog 45 #[.string (bl l), .string ⟨#[36]⟩] w fun e w' => e = .returned (.bool (l.contains 36)) ∧ Below w.heap.size w w' :=
  (Tryz.strings_Contains_one (bl l) 36 w).mono fun e w' h => ⟨by rw [h.1, bl_data, idx_mem], by rw [h.2]; exact Below.refl _ _⟩
theorem numL_word (c : UInt8) (r : List UInt8) (h : (ltB c || c == 36) = true) : (numL (c :: r)).2 ≠ 0 := by
  have h1 := u8_dec (fun c => (ltB c || c == 36) = true → dg c = false ∧ c ≠ 45) (by decide +kernel) c h
  unfold numL
  split
  · simp
  · rw [if_neg (by simp [h1.2])]
    unfold numT
    rw [List.takeWhile_cons_of_neg (by rw [h1.1]; simp)]
    unfold numR
    simp
theorem read_word (c : UInt8) (r : List UInt8) (h : (ltB c || c == 36) = true) :
    ((truP (c :: r)).2 = true ∧ readP (c :: r) = (3, 0, [], (truP (c :: r)).1, 0, 0)) ∨ ((truP (c :: r)).2 = false ∧ ∃ K n s b k e, readP (c :: r) = (K, n, s, b, k, e) ∧ K ≠ 3) := by
  have h1 := numL_word c r h
  unfold readP
  rw [if_neg (by simp), if_neg h1]
  cases ht : (truP (c :: r)).2 with
  | true => exact .inl ⟨rfl, by rw [if_pos rfl]⟩
  | false =>
    refine .inr ⟨rfl, ?_⟩
    rw [if_neg (by simp)]
    cases nameOf (bl (c :: r)) with
    | some i => exact ⟨_, _, _, _, _, _, rfl, by decide⟩
    | none =>
      simp only
      split
      · exact ⟨_, _, _, _, _, _, rfl, by decide⟩
      · exact ⟨_, _, _, _, _, _, rfl, by decide⟩
theorem all_wd (w : List UInt8) (h : w.all wdB = true) : w.all (fun c => ltB c || dg c || c == 46 || c == 95) = !(w.contains 36) := by
  induction w with
  | nil => rfl
  | cons c r ih =>
    rw [List.all_cons, Bool.and_eq_true] at h
    have hc := u8_dec (fun c => wdB c = true → (ltB c || dg c || c == 46 || c == 95) = !(c == 36)) (by decide +kernel) c h.1
    rw [List.all_cons, ih h.2, hc, List.contains_cons]
    cases h36 : (36 == c) with
    | true => rw [beq_iff_eq] at h36; subst h36; rfl
    | false =>
      have : (c == 36) = false := by rw [beq_eq_false_iff_ne] at h36 ⊢; exact fun e => h36 e.symm
      rw [this]; rfl
set_option maxHeartbeats 8000000 in
set_option maxRecDepth 100000 in
theorem word_n1 (s x : ByteArray) (at_ len n : Nat) (c : UInt8) (res : Tk × Nat × Int) (w0 w : World) (g : Nat) (hlt : ltB c = false) (RS : res = (tkZ, 0, 5)) (y : ByteArray) (HFo : Aside0 (value_Fold.f x = some y)) (HCo : Aside0 (∀ W, Calls Tryz.prog 45 #[.string x, .string ⟨#[36]⟩] W fun e w' => e = .returned (.bool true) ∧ Below W.heap.size W w'))
    (hsz : s.size = at_ + len) (hlen : at_ + len ≤ 1024) (hn : n ≤ len) (hpos : 0 < n) (hxs : x.size = n) (hx0 : ∀ hh : 0 < x.size, x[0]'hh = c)
    (HR : Aside0 (∀ W (h : IsSc w0 W g s (at_ : Int) 0) (b : Nat) (hb : W.heap[b]? = some (.cells #[ptV g] 46 (0, 0))), Calls Tryz.prog 53 #[.func (.func 44) #[] #[], ptV b] W fun e w' => e = .returned (.string x) ∧ Below W.heap.size W w'))
    (HF : Aside0 (∀ W, Calls Tryz.prog 42 #[.string (s.extract (at_ + n) (at_ + len)), .string ⟨#[40]⟩] W fun e w' => e = .returned (.bool true) ∧ Below W.heap.size W w'))
    (hI : IsSc w0 w g s (at_ : Int) 0) (hB : Below w0.heap.size w0 w) :
    Calls Tryz.prog 30 #[ptV g] w (OneOut s (at_ : Int) res w0 g w) := by
  have hgl := blk_lt hI.1
  have hne1 : w.heap.size ≠ g := by omega
  have hne2 : g ≠ w.heap.size := by omega
  have HI := Aside0.mk hI
  have HB := Aside0.mk hB
  clear hI hB
  have z0 : (0 : Int) ≤ (at_ : Int) + (n : Int) := by omega
  have z1 : (at_ : Int) + (n : Int) ≤ (at_ : Int) + (len : Int) := by omega
  have z2 : IntKind.i64.wrap ((at_ : Int) + (n : Int)) = (at_ : Int) + (n : Int) := by rw [i64_w]; unfold wrap64; omega
  have z3 : ((at_ : Int) + (n : Int)).toNat = at_ + n := by omega
  go_enter Tryz.func30, Tryz.ntmps30
  go_wp2_with (first
    | (go_at_call 38; (with_reducible refine (row_calls g _).mono ?_); rintro e w1 ⟨rfl, rfl⟩)
    | (go_at_call 53; (with_reducible refine (HR.out _ ((HI.out.alloc _).alloc _) _ (newBlk2 w _ _)).mono ?_); rintro e w1 ⟨rfl, hb⟩; have HB1 := Aside0.mk (below_step (bel2 w _ _) hb); have S0 := Aside0.mk (((HI.out.alloc _).alloc _).below hb); have T0 := Aside0.mk (blk_below (blk_alloc (newBlk w _) _) hb); clear hb))
  have hS2 := (show (fun w' => (IsSc w0 w' g s (at_ : Int) 0 ∧ w'.heap[w.heap.size]? = some (.cells ZTk 45 (0, 0)) ∧ KeepBut w w' g none ∧ Below w0.heap.size w0 w')) (w1.drew) from ⟨⟨blk_drew S0.out.1, HI.out.2⟩, blk_drew T0.out, keep_drew (KeepBut.of_below HB1.out g none), below_drew1 (low HB.out HB1.out)⟩)
  refine start_ (n := 13) (S := fun w' => (IsSc w0 w' g s (at_ : Int) 0 ∧ w'.heap[w.heap.size]? = some (.cells ZTk 45 (0, 0)) ∧ KeepBut w w' g none ∧ Below w0.heap.size w0 w')) (ds := []) #[false, false, false, false, false, false, false, false, false, false, false, false, false] (by kernel_rfl) rfl rfl hS2 (fun hHeld => ?_)
  refine with_tabW lwrd2.tab2 lwrd2.bits2 (fun HT_ HW_ => ?_)
  refine pureI 0 (some 12) HT_ rfl rfl (by kernel_rfl) (by rfl) (fun _ => by go_simp; with_reducible rfl) (by simp only [Act.put, List.setIfInBounds_toArray, List.set_cons_zero, List.set_cons_succ]; rfl) ?_
  refine pureI 1 (some 13) HT_ rfl rfl (by kernel_rfl) (by rfl) (fun _ => by go_simp; with_reducible rfl) (by simp only [Act.put, List.setIfInBounds_toArray, List.set_cons_zero, List.set_cons_succ]; rfl) ?_
  refine pureI 2 (some 14) HT_ rfl rfl (by kernel_rfl) (by rfl) (fun _ => by go_simp; with_reducible rfl) (by simp only [Act.put, List.setIfInBounds_toArray, List.set_cons_zero, List.set_cons_succ]; rfl) ?_
  refine pureI 4 (some 16) HT_ rfl rfl (by kernel_rfl) (by rfl) (fun _ => by go_simp; with_reducible rfl) (by simp only [Act.put, List.setIfInBounds_toArray, List.set_cons_zero, List.set_cons_succ]; rfl) ?_
  refine pureI 5 (some 17) HT_ rfl rfl (by kernel_rfl) (by rfl) (fun _ => by go_simp; with_reducible rfl) (by simp only [Act.put, List.setIfInBounds_toArray, List.set_cons_zero, List.set_cons_succ]; rfl) ?_
  refine pureI 6 (some 18) HT_ rfl rfl (by kernel_rfl) (by rfl) (fun _ => by go_simp; with_reducible rfl) (by simp only [Act.put, List.setIfInBounds_toArray, List.set_cons_zero, List.set_cons_succ]; rfl) ?_
  refine pureI 8 (some 20) HT_ rfl rfl (by kernel_rfl) (by rfl) (fun _ => by go_simp; with_reducible rfl) (by simp only [Act.put, List.setIfInBounds_toArray, List.set_cons_zero, List.set_cons_succ]; rfl) ?_
  refine pureI 9 (some 21) HT_ rfl rfl (by kernel_rfl) (by rfl) (fun _ => by go_simp; with_reducible rfl) (by simp only [Act.put, List.setIfInBounds_toArray, List.set_cons_zero, List.set_cons_succ]; rfl) ?_
  refine takeI 3 (some 15) HT_ HW_ rfl rfl (by kernel_rfl) (by rfl) (by rintro w' s0; have q0 := (blk_cell s0.1.1 0).trans (show _ = some (Value.string s) from rfl); have q1 := (blk_cell s0.1.1 1).trans (show _ = some (Value.int .i64 (at_ : Int)) from rfl); go_simp; with_reducible rfl) hHeld (by simp only [Act.put, List.setIfInBounds_toArray, List.set_cons_zero, List.set_cons_succ]; rfl) ?_
  refine takeI 7 (some 19) HT_ HW_ rfl rfl (by kernel_rfl) (by rfl) (by rintro w' s0; have q0 := (blk_cell s0.1.1 0).trans (show _ = some (Value.string s) from rfl); have q1 := (blk_cell s0.1.1 1).trans (show _ = some (Value.int .i64 (at_ : Int)) from rfl); go_simp; with_reducible rfl) hHeld (by simp only [Act.put, List.setIfInBounds_toArray, List.set_cons_zero, List.set_cons_succ]; rfl) ?_
  refine pureI 10 (some 22) HT_ rfl rfl (by kernel_rfl) (by rfl) (fun _ => by go_simp; with_reducible rfl) (by simp only [Act.put, List.setIfInBounds_toArray, List.set_cons_zero, List.set_cons_succ]; rfl) ?_
  refine pureI 11 (some 23) HT_ rfl rfl (by kernel_rfl) (by rfl) (fun _ => by go_simp; with_reducible rfl) (by simp only [Act.put, List.setIfInBounds_toArray, List.set_cons_zero, List.set_cons_succ]; rfl) ?_
  refine oneI 12 (some 24) HT_ rfl rfl (by kernel_rfl) (by decide) (fun K hK => ?_)
  refine goes_ Tryz.func42 (by kernel_rfl) rfl #[.string (s.extract (at_ + n) (at_ + len)), .string ⟨#[40]⟩] (by (try simp only [List.map_toArray, List.map_cons, List.map_nil]); first | done | rfl) rfl rfl (by first | rfl | ((try simp only [List.map_toArray, List.map_cons, List.map_nil]); first | done | rfl)) ?_
  with_reducible refine (HF.out _).mono ?_
  rintro e w9 ⟨rfl, hb⟩
  refine ⟨_, rfl, ?_⟩
  refine hK.out _ _ ⟨hHeld.1.below hb, blk_below hHeld.2.1 hb, hHeld.2.2.1.trans (KeepBut.of_below hb g none) (.inl rfl), low hHeld.2.2.2 hb⟩ (fun hHeld => ?_)
  clear hK K
  refine norm_ (a' := ?_) ?_ ?_
  rotate_left
  · show Act.put _ (some 24) _ = _
    simp only [Act.put, List.setIfInBounds_toArray, List.set_cons_zero, List.set_cons_succ]
    rfl
  refine done_ (done_of HT_.out (by kernel_rfl)) ?_
  have S1 := Aside0.mk hHeld.1
  have T1 := Aside0.mk hHeld.2.1
  have KB := Aside0.mk hHeld.2.2.1
  have LB := Aside0.mk hHeld.2.2.2
  clear hHeld S0 T0 HB1 HF HR z0 z1 z2 z3
  have hc := fun i => blk_cell S1.out.1 i
  have hf := fun i => blk_frozen S1.out.1 i
  go_wp2_with (first
    | (go_at_call 29; (with_reducible refine (lexLetter_calls c _).mono ?_); rintro e w2 ⟨rfl, hb⟩; replace S1 := Aside0.mk (S1.out.below hb); replace T1 := Aside0.mk (blk_below T1.out hb); replace KB := Aside0.mk (KB.out.trans (KeepBut.of_below hb g none) (.inl rfl)); replace LB := Aside0.mk (low LB.out hb); clear hb; replace hc := fun i => blk_cell S1.out.1 i; replace hf := fun i => blk_frozen S1.out.1 i)
    | (go_at_call 45; refine (HCo.out _).mono ?_; rintro e w3 ⟨rfl, hb⟩; replace S1 := Aside0.mk (S1.out.below hb); replace T1 := Aside0.mk (blk_below T1.out hb); replace KB := Aside0.mk (KB.out.trans (KeepBut.of_below hb g none) (.inl rfl)); replace LB := Aside0.mk (low LB.out hb); clear hb; replace hc := fun i => blk_cell S1.out.1 i; replace hf := fun i => blk_frozen S1.out.1 i)
    | (go_at_call 46; refine (value_Fold.calls _ _ _ HFo.out).mono ?_; rintro e w4 ⟨rfl, hb⟩; have S2 := Aside0.mk (IsSc.below (show IsSc w0 _ g s (at_ : Int) 5 from ⟨blk_put S1.out.1 2 _ rfl, HI.out.2⟩) hb); have T2 := Aside0.mk (blk_below (blk_far (p := ⟨g, 2, none⟩) T1.out hne1 _) hb); have K2 := Aside0.mk ((KB.out.set_ 2 _).trans (KeepBut.of_below hb g none) (.inl rfl)); have L2 := Aside0.mk (low (LB.out.setCell (p := ⟨g, 2, none⟩) HI.out.2 _) hb); clear hb)
    | ((with_reducible refine gate_store (t := 45) (p := 2) (v := .tmp 43) rfl ?_); refine wpRowSt rfl 45 (.tmp 2) (.tmp 43) rfl (w.heap.size) (TkA ⟨3, vlZ, ceZ, y, 0⟩) rfl rfl 45 _ T2.out (by kernel_rfl) rfl rfl ?_))
  refine bodyPost_ret (results_ct rfl _ _ (w.heap.size) 45 (TkA ⟨3, vlZ, ceZ, y, 0⟩) (0, 0) _ rfl (setRow_heap _ _ _ _ _ _ T2.out) Tryz.underlying45 rfl (by kernel_rfl)) rfl ?_
  refine ⟨_, _, rfl, fun h => ?_, ?_, rowBelow L2.out HB.out.size _, keepRow K2.out (Nat.le_refl _) _⟩
  · rw [RS] at h; cases h
  · rw [RS]; exact ⟨rowOther _ S2.out.1 hne2, HI.out.2⟩
set_option maxHeartbeats 8000000 in
set_option maxRecDepth 100000 in
theorem word_n2 (s x : ByteArray) (at_ len n : Nat) (c : UInt8) (res : Tk × Nat × Int) (w0 w : World) (g : Nat) (hlt : ltB c = true) (RS : res = (tkZ, 0, 5)) (y : ByteArray) (HFo : Aside0 (value_Fold.f x = some y)) (HCo : Aside0 (∀ W, Calls Tryz.prog 45 #[.string x, .string ⟨#[36]⟩] W fun e w' => e = .returned (.bool true) ∧ Below W.heap.size W w'))
    (hsz : s.size = at_ + len) (hlen : at_ + len ≤ 1024) (hn : n ≤ len) (hpos : 0 < n) (hxs : x.size = n) (hx0 : ∀ hh : 0 < x.size, x[0]'hh = c)
    (HR : Aside0 (∀ W (h : IsSc w0 W g s (at_ : Int) 0) (b : Nat) (hb : W.heap[b]? = some (.cells #[ptV g] 46 (0, 0))), Calls Tryz.prog 53 #[.func (.func 44) #[] #[], ptV b] W fun e w' => e = .returned (.string x) ∧ Below W.heap.size W w'))
    (HF : Aside0 (∀ W, Calls Tryz.prog 42 #[.string (s.extract (at_ + n) (at_ + len)), .string ⟨#[40]⟩] W fun e w' => e = .returned (.bool true) ∧ Below W.heap.size W w'))
    (hI : IsSc w0 w g s (at_ : Int) 0) (hB : Below w0.heap.size w0 w) :
    Calls Tryz.prog 30 #[ptV g] w (OneOut s (at_ : Int) res w0 g w) := by
  have hgl := blk_lt hI.1
  have hne1 : w.heap.size ≠ g := by omega
  have hne2 : g ≠ w.heap.size := by omega
  have HI := Aside0.mk hI
  have HB := Aside0.mk hB
  clear hI hB
  have z0 : (0 : Int) ≤ (at_ : Int) + (n : Int) := by omega
  have z1 : (at_ : Int) + (n : Int) ≤ (at_ : Int) + (len : Int) := by omega
  have z2 : IntKind.i64.wrap ((at_ : Int) + (n : Int)) = (at_ : Int) + (n : Int) := by rw [i64_w]; unfold wrap64; omega
  have z3 : ((at_ : Int) + (n : Int)).toNat = at_ + n := by omega
  go_enter Tryz.func30, Tryz.ntmps30
  go_wp2_with (first
    | (go_at_call 38; (with_reducible refine (row_calls g _).mono ?_); rintro e w1 ⟨rfl, rfl⟩)
    | (go_at_call 53; (with_reducible refine (HR.out _ ((HI.out.alloc _).alloc _) _ (newBlk2 w _ _)).mono ?_); rintro e w1 ⟨rfl, hb⟩; have HB1 := Aside0.mk (below_step (bel2 w _ _) hb); have S0 := Aside0.mk (((HI.out.alloc _).alloc _).below hb); have T0 := Aside0.mk (blk_below (blk_alloc (newBlk w _) _) hb); clear hb))
  have hS2 := (show (fun w' => (IsSc w0 w' g s (at_ : Int) 0 ∧ w'.heap[w.heap.size]? = some (.cells ZTk 45 (0, 0)) ∧ KeepBut w w' g none ∧ Below w0.heap.size w0 w')) (w1.drew) from ⟨⟨blk_drew S0.out.1, HI.out.2⟩, blk_drew T0.out, keep_drew (KeepBut.of_below HB1.out g none), below_drew1 (low HB.out HB1.out)⟩)
  refine start_ (n := 13) (S := fun w' => (IsSc w0 w' g s (at_ : Int) 0 ∧ w'.heap[w.heap.size]? = some (.cells ZTk 45 (0, 0)) ∧ KeepBut w w' g none ∧ Below w0.heap.size w0 w')) (ds := []) #[false, false, false, false, false, false, false, false, false, false, false, false, false] (by kernel_rfl) rfl rfl hS2 (fun hHeld => ?_)
  refine with_tabW lwrd2.tab2 lwrd2.bits2 (fun HT_ HW_ => ?_)
  refine pureI 0 (some 12) HT_ rfl rfl (by kernel_rfl) (by rfl) (fun _ => by go_simp; with_reducible rfl) (by simp only [Act.put, List.setIfInBounds_toArray, List.set_cons_zero, List.set_cons_succ]; rfl) ?_
  refine pureI 1 (some 13) HT_ rfl rfl (by kernel_rfl) (by rfl) (fun _ => by go_simp; with_reducible rfl) (by simp only [Act.put, List.setIfInBounds_toArray, List.set_cons_zero, List.set_cons_succ]; rfl) ?_
  refine pureI 2 (some 14) HT_ rfl rfl (by kernel_rfl) (by rfl) (fun _ => by go_simp; with_reducible rfl) (by simp only [Act.put, List.setIfInBounds_toArray, List.set_cons_zero, List.set_cons_succ]; rfl) ?_
  refine pureI 4 (some 16) HT_ rfl rfl (by kernel_rfl) (by rfl) (fun _ => by go_simp; with_reducible rfl) (by simp only [Act.put, List.setIfInBounds_toArray, List.set_cons_zero, List.set_cons_succ]; rfl) ?_
  refine pureI 5 (some 17) HT_ rfl rfl (by kernel_rfl) (by rfl) (fun _ => by go_simp; with_reducible rfl) (by simp only [Act.put, List.setIfInBounds_toArray, List.set_cons_zero, List.set_cons_succ]; rfl) ?_
  refine pureI 6 (some 18) HT_ rfl rfl (by kernel_rfl) (by rfl) (fun _ => by go_simp; with_reducible rfl) (by simp only [Act.put, List.setIfInBounds_toArray, List.set_cons_zero, List.set_cons_succ]; rfl) ?_
  refine pureI 8 (some 20) HT_ rfl rfl (by kernel_rfl) (by rfl) (fun _ => by go_simp; with_reducible rfl) (by simp only [Act.put, List.setIfInBounds_toArray, List.set_cons_zero, List.set_cons_succ]; rfl) ?_
  refine pureI 9 (some 21) HT_ rfl rfl (by kernel_rfl) (by rfl) (fun _ => by go_simp; with_reducible rfl) (by simp only [Act.put, List.setIfInBounds_toArray, List.set_cons_zero, List.set_cons_succ]; rfl) ?_
  refine takeI 3 (some 15) HT_ HW_ rfl rfl (by kernel_rfl) (by rfl) (by rintro w' s0; have q0 := (blk_cell s0.1.1 0).trans (show _ = some (Value.string s) from rfl); have q1 := (blk_cell s0.1.1 1).trans (show _ = some (Value.int .i64 (at_ : Int)) from rfl); go_simp; with_reducible rfl) hHeld (by simp only [Act.put, List.setIfInBounds_toArray, List.set_cons_zero, List.set_cons_succ]; rfl) ?_
  refine takeI 7 (some 19) HT_ HW_ rfl rfl (by kernel_rfl) (by rfl) (by rintro w' s0; have q0 := (blk_cell s0.1.1 0).trans (show _ = some (Value.string s) from rfl); have q1 := (blk_cell s0.1.1 1).trans (show _ = some (Value.int .i64 (at_ : Int)) from rfl); go_simp; with_reducible rfl) hHeld (by simp only [Act.put, List.setIfInBounds_toArray, List.set_cons_zero, List.set_cons_succ]; rfl) ?_
  refine pureI 10 (some 22) HT_ rfl rfl (by kernel_rfl) (by rfl) (fun _ => by go_simp; with_reducible rfl) (by simp only [Act.put, List.setIfInBounds_toArray, List.set_cons_zero, List.set_cons_succ]; rfl) ?_
  refine pureI 11 (some 23) HT_ rfl rfl (by kernel_rfl) (by rfl) (fun _ => by go_simp; with_reducible rfl) (by simp only [Act.put, List.setIfInBounds_toArray, List.set_cons_zero, List.set_cons_succ]; rfl) ?_
  refine oneI 12 (some 24) HT_ rfl rfl (by kernel_rfl) (by decide) (fun K hK => ?_)
  refine goes_ Tryz.func42 (by kernel_rfl) rfl #[.string (s.extract (at_ + n) (at_ + len)), .string ⟨#[40]⟩] (by (try simp only [List.map_toArray, List.map_cons, List.map_nil]); first | done | rfl) rfl rfl (by first | rfl | ((try simp only [List.map_toArray, List.map_cons, List.map_nil]); first | done | rfl)) ?_
  with_reducible refine (HF.out _).mono ?_
  rintro e w9 ⟨rfl, hb⟩
  refine ⟨_, rfl, ?_⟩
  refine hK.out _ _ ⟨hHeld.1.below hb, blk_below hHeld.2.1 hb, hHeld.2.2.1.trans (KeepBut.of_below hb g none) (.inl rfl), low hHeld.2.2.2 hb⟩ (fun hHeld => ?_)
  clear hK K
  refine norm_ (a' := ?_) ?_ ?_
  rotate_left
  · show Act.put _ (some 24) _ = _
    simp only [Act.put, List.setIfInBounds_toArray, List.set_cons_zero, List.set_cons_succ]
    rfl
  refine done_ (done_of HT_.out (by kernel_rfl)) ?_
  have S1 := Aside0.mk hHeld.1
  have T1 := Aside0.mk hHeld.2.1
  have KB := Aside0.mk hHeld.2.2.1
  have LB := Aside0.mk hHeld.2.2.2
  clear hHeld S0 T0 HB1 HF HR z0 z1 z2 z3
  have hc := fun i => blk_cell S1.out.1 i
  have hf := fun i => blk_frozen S1.out.1 i
  go_wp2_with (first
    | (go_at_call 29; (with_reducible refine (lexLetter_calls c _).mono ?_); rintro e w2 ⟨rfl, hb⟩; replace S1 := Aside0.mk (S1.out.below hb); replace T1 := Aside0.mk (blk_below T1.out hb); replace KB := Aside0.mk (KB.out.trans (KeepBut.of_below hb g none) (.inl rfl)); replace LB := Aside0.mk (low LB.out hb); clear hb; replace hc := fun i => blk_cell S1.out.1 i; replace hf := fun i => blk_frozen S1.out.1 i)
    | (go_at_call 45; refine (HCo.out _).mono ?_; rintro e w3 ⟨rfl, hb⟩; replace S1 := Aside0.mk (S1.out.below hb); replace T1 := Aside0.mk (blk_below T1.out hb); replace KB := Aside0.mk (KB.out.trans (KeepBut.of_below hb g none) (.inl rfl)); replace LB := Aside0.mk (low LB.out hb); clear hb; replace hc := fun i => blk_cell S1.out.1 i; replace hf := fun i => blk_frozen S1.out.1 i)
    | (go_at_call 46; refine (value_Fold.calls _ _ _ HFo.out).mono ?_; rintro e w4 ⟨rfl, hb⟩; have S2 := Aside0.mk (IsSc.below (show IsSc w0 _ g s (at_ : Int) 5 from ⟨blk_put S1.out.1 2 _ rfl, HI.out.2⟩) hb); have T2 := Aside0.mk (blk_below (blk_far (p := ⟨g, 2, none⟩) T1.out hne1 _) hb); have K2 := Aside0.mk ((KB.out.set_ 2 _).trans (KeepBut.of_below hb g none) (.inl rfl)); have L2 := Aside0.mk (low (LB.out.setCell (p := ⟨g, 2, none⟩) HI.out.2 _) hb); clear hb)
    | ((with_reducible refine gate_store (t := 45) (p := 2) (v := .tmp 43) rfl ?_); refine wpRowSt rfl 45 (.tmp 2) (.tmp 43) rfl (w.heap.size) (TkA ⟨3, vlZ, ceZ, y, 0⟩) rfl rfl 45 _ T2.out (by kernel_rfl) rfl rfl ?_))
  refine bodyPost_ret (results_ct rfl _ _ (w.heap.size) 45 (TkA ⟨3, vlZ, ceZ, y, 0⟩) (0, 0) _ rfl (setRow_heap _ _ _ _ _ _ T2.out) Tryz.underlying45 rfl (by kernel_rfl)) rfl ?_
  refine ⟨_, _, rfl, fun h => ?_, ?_, rowBelow L2.out HB.out.size _, keepRow K2.out (Nat.le_refl _) _⟩
  · rw [RS] at h; cases h
  · rw [RS]; exact ⟨rowOther _ S2.out.1 hne2, HI.out.2⟩
set_option maxHeartbeats 8000000 in
set_option maxRecDepth 100000 in
theorem word_n3 (s x : ByteArray) (at_ len n : Nat) (c : UInt8) (res : Tk × Nat × Int) (w0 w : World) (g : Nat) (hlt : ltB c = true) (h20 : 20 < n) (RS : res = (tkZ, 0, 5)) (y : ByteArray) (HFo : Aside0 (value_Fold.f x = some y)) (HCo : Aside0 (∀ W, Calls Tryz.prog 45 #[.string x, .string ⟨#[36]⟩] W fun e w' => e = .returned (.bool false) ∧ Below W.heap.size W w'))
    (hsz : s.size = at_ + len) (hlen : at_ + len ≤ 1024) (hn : n ≤ len) (hpos : 0 < n) (hxs : x.size = n) (hx0 : ∀ hh : 0 < x.size, x[0]'hh = c)
    (HR : Aside0 (∀ W (h : IsSc w0 W g s (at_ : Int) 0) (b : Nat) (hb : W.heap[b]? = some (.cells #[ptV g] 46 (0, 0))), Calls Tryz.prog 53 #[.func (.func 44) #[] #[], ptV b] W fun e w' => e = .returned (.string x) ∧ Below W.heap.size W w'))
    (HF : Aside0 (∀ W, Calls Tryz.prog 42 #[.string (s.extract (at_ + n) (at_ + len)), .string ⟨#[40]⟩] W fun e w' => e = .returned (.bool true) ∧ Below W.heap.size W w'))
    (hI : IsSc w0 w g s (at_ : Int) 0) (hB : Below w0.heap.size w0 w) :
    Calls Tryz.prog 30 #[ptV g] w (OneOut s (at_ : Int) res w0 g w) := by
  have hgl := blk_lt hI.1
  have hne1 : w.heap.size ≠ g := by omega
  have hne2 : g ≠ w.heap.size := by omega
  have HI := Aside0.mk hI
  have HB := Aside0.mk hB
  clear hI hB
  have z0 : (0 : Int) ≤ (at_ : Int) + (n : Int) := by omega
  have z1 : (at_ : Int) + (n : Int) ≤ (at_ : Int) + (len : Int) := by omega
  have z2 : IntKind.i64.wrap ((at_ : Int) + (n : Int)) = (at_ : Int) + (n : Int) := by rw [i64_w]; unfold wrap64; omega
  have z3 : ((at_ : Int) + (n : Int)).toNat = at_ + n := by omega
  go_enter Tryz.func30, Tryz.ntmps30
  go_wp2_with (first
    | (go_at_call 38; (with_reducible refine (row_calls g _).mono ?_); rintro e w1 ⟨rfl, rfl⟩)
    | (go_at_call 53; (with_reducible refine (HR.out _ ((HI.out.alloc _).alloc _) _ (newBlk2 w _ _)).mono ?_); rintro e w1 ⟨rfl, hb⟩; have HB1 := Aside0.mk (below_step (bel2 w _ _) hb); have S0 := Aside0.mk (((HI.out.alloc _).alloc _).below hb); have T0 := Aside0.mk (blk_below (blk_alloc (newBlk w _) _) hb); clear hb))
  have hS2 := (show (fun w' => (IsSc w0 w' g s (at_ : Int) 0 ∧ w'.heap[w.heap.size]? = some (.cells ZTk 45 (0, 0)) ∧ KeepBut w w' g none ∧ Below w0.heap.size w0 w')) (w1.drew) from ⟨⟨blk_drew S0.out.1, HI.out.2⟩, blk_drew T0.out, keep_drew (KeepBut.of_below HB1.out g none), below_drew1 (low HB.out HB1.out)⟩)
  refine start_ (n := 13) (S := fun w' => (IsSc w0 w' g s (at_ : Int) 0 ∧ w'.heap[w.heap.size]? = some (.cells ZTk 45 (0, 0)) ∧ KeepBut w w' g none ∧ Below w0.heap.size w0 w')) (ds := []) #[false, false, false, false, false, false, false, false, false, false, false, false, false] (by kernel_rfl) rfl rfl hS2 (fun hHeld => ?_)
  refine with_tabW lwrd2.tab2 lwrd2.bits2 (fun HT_ HW_ => ?_)
  refine pureI 0 (some 12) HT_ rfl rfl (by kernel_rfl) (by rfl) (fun _ => by go_simp; with_reducible rfl) (by simp only [Act.put, List.setIfInBounds_toArray, List.set_cons_zero, List.set_cons_succ]; rfl) ?_
  refine pureI 1 (some 13) HT_ rfl rfl (by kernel_rfl) (by rfl) (fun _ => by go_simp; with_reducible rfl) (by simp only [Act.put, List.setIfInBounds_toArray, List.set_cons_zero, List.set_cons_succ]; rfl) ?_
  refine pureI 2 (some 14) HT_ rfl rfl (by kernel_rfl) (by rfl) (fun _ => by go_simp; with_reducible rfl) (by simp only [Act.put, List.setIfInBounds_toArray, List.set_cons_zero, List.set_cons_succ]; rfl) ?_
  refine pureI 4 (some 16) HT_ rfl rfl (by kernel_rfl) (by rfl) (fun _ => by go_simp; with_reducible rfl) (by simp only [Act.put, List.setIfInBounds_toArray, List.set_cons_zero, List.set_cons_succ]; rfl) ?_
  refine pureI 5 (some 17) HT_ rfl rfl (by kernel_rfl) (by rfl) (fun _ => by go_simp; with_reducible rfl) (by simp only [Act.put, List.setIfInBounds_toArray, List.set_cons_zero, List.set_cons_succ]; rfl) ?_
  refine pureI 6 (some 18) HT_ rfl rfl (by kernel_rfl) (by rfl) (fun _ => by go_simp; with_reducible rfl) (by simp only [Act.put, List.setIfInBounds_toArray, List.set_cons_zero, List.set_cons_succ]; rfl) ?_
  refine pureI 8 (some 20) HT_ rfl rfl (by kernel_rfl) (by rfl) (fun _ => by go_simp; with_reducible rfl) (by simp only [Act.put, List.setIfInBounds_toArray, List.set_cons_zero, List.set_cons_succ]; rfl) ?_
  refine pureI 9 (some 21) HT_ rfl rfl (by kernel_rfl) (by rfl) (fun _ => by go_simp; with_reducible rfl) (by simp only [Act.put, List.setIfInBounds_toArray, List.set_cons_zero, List.set_cons_succ]; rfl) ?_
  refine takeI 3 (some 15) HT_ HW_ rfl rfl (by kernel_rfl) (by rfl) (by rintro w' s0; have q0 := (blk_cell s0.1.1 0).trans (show _ = some (Value.string s) from rfl); have q1 := (blk_cell s0.1.1 1).trans (show _ = some (Value.int .i64 (at_ : Int)) from rfl); go_simp; with_reducible rfl) hHeld (by simp only [Act.put, List.setIfInBounds_toArray, List.set_cons_zero, List.set_cons_succ]; rfl) ?_
  refine takeI 7 (some 19) HT_ HW_ rfl rfl (by kernel_rfl) (by rfl) (by rintro w' s0; have q0 := (blk_cell s0.1.1 0).trans (show _ = some (Value.string s) from rfl); have q1 := (blk_cell s0.1.1 1).trans (show _ = some (Value.int .i64 (at_ : Int)) from rfl); go_simp; with_reducible rfl) hHeld (by simp only [Act.put, List.setIfInBounds_toArray, List.set_cons_zero, List.set_cons_succ]; rfl) ?_
  refine pureI 10 (some 22) HT_ rfl rfl (by kernel_rfl) (by rfl) (fun _ => by go_simp; with_reducible rfl) (by simp only [Act.put, List.setIfInBounds_toArray, List.set_cons_zero, List.set_cons_succ]; rfl) ?_
  refine pureI 11 (some 23) HT_ rfl rfl (by kernel_rfl) (by rfl) (fun _ => by go_simp; with_reducible rfl) (by simp only [Act.put, List.setIfInBounds_toArray, List.set_cons_zero, List.set_cons_succ]; rfl) ?_
  refine oneI 12 (some 24) HT_ rfl rfl (by kernel_rfl) (by decide) (fun K hK => ?_)
  refine goes_ Tryz.func42 (by kernel_rfl) rfl #[.string (s.extract (at_ + n) (at_ + len)), .string ⟨#[40]⟩] (by (try simp only [List.map_toArray, List.map_cons, List.map_nil]); first | done | rfl) rfl rfl (by first | rfl | ((try simp only [List.map_toArray, List.map_cons, List.map_nil]); first | done | rfl)) ?_
  with_reducible refine (HF.out _).mono ?_
  rintro e w9 ⟨rfl, hb⟩
  refine ⟨_, rfl, ?_⟩
  refine hK.out _ _ ⟨hHeld.1.below hb, blk_below hHeld.2.1 hb, hHeld.2.2.1.trans (KeepBut.of_below hb g none) (.inl rfl), low hHeld.2.2.2 hb⟩ (fun hHeld => ?_)
  clear hK K
  refine norm_ (a' := ?_) ?_ ?_
  rotate_left
  · show Act.put _ (some 24) _ = _
    simp only [Act.put, List.setIfInBounds_toArray, List.set_cons_zero, List.set_cons_succ]
    rfl
  refine done_ (done_of HT_.out (by kernel_rfl)) ?_
  have S1 := Aside0.mk hHeld.1
  have T1 := Aside0.mk hHeld.2.1
  have KB := Aside0.mk hHeld.2.2.1
  have LB := Aside0.mk hHeld.2.2.2
  clear hHeld S0 T0 HB1 HF HR z0 z1 z2 z3
  have hc := fun i => blk_cell S1.out.1 i
  have hf := fun i => blk_frozen S1.out.1 i
  have d20 : decide ((n : Int) > 20) = true := decide_eq_true (by omega)
  have e20 : (n : Int) > 20 := by omega
  go_wp2_with (first
    | (go_at_call 29; (with_reducible refine (lexLetter_calls c _).mono ?_); rintro e w2 ⟨rfl, hb⟩; replace S1 := Aside0.mk (S1.out.below hb); replace T1 := Aside0.mk (blk_below T1.out hb); replace KB := Aside0.mk (KB.out.trans (KeepBut.of_below hb g none) (.inl rfl)); replace LB := Aside0.mk (low LB.out hb); clear hb; replace hc := fun i => blk_cell S1.out.1 i; replace hf := fun i => blk_frozen S1.out.1 i)
    | (go_at_call 45; refine (HCo.out _).mono ?_; rintro e w3 ⟨rfl, hb⟩; replace S1 := Aside0.mk (S1.out.below hb); replace T1 := Aside0.mk (blk_below T1.out hb); replace KB := Aside0.mk (KB.out.trans (KeepBut.of_below hb g none) (.inl rfl)); replace LB := Aside0.mk (low LB.out hb); clear hb; replace hc := fun i => blk_cell S1.out.1 i; replace hf := fun i => blk_frozen S1.out.1 i)
    | (go_at_call 46; refine (value_Fold.calls _ _ _ HFo.out).mono ?_; rintro e w4 ⟨rfl, hb⟩; have S2 := Aside0.mk (IsSc.below (show IsSc w0 _ g s (at_ : Int) 5 from ⟨blk_put S1.out.1 2 _ rfl, HI.out.2⟩) hb); have T2 := Aside0.mk (blk_below (blk_far (p := ⟨g, 2, none⟩) T1.out hne1 _) hb); have K2 := Aside0.mk ((KB.out.set_ 2 _).trans (KeepBut.of_below hb g none) (.inl rfl)); have L2 := Aside0.mk (low (LB.out.setCell (p := ⟨g, 2, none⟩) HI.out.2 _) hb); clear hb)
    | ((with_reducible refine gate_store (t := 45) (p := 2) (v := .tmp 43) rfl ?_); refine wpRowSt rfl 45 (.tmp 2) (.tmp 43) rfl (w.heap.size) (TkA ⟨3, vlZ, ceZ, y, 0⟩) rfl rfl 45 _ T2.out (by kernel_rfl) rfl rfl ?_))
  refine bodyPost_ret (results_ct rfl _ _ (w.heap.size) 45 (TkA ⟨3, vlZ, ceZ, y, 0⟩) (0, 0) _ rfl (setRow_heap _ _ _ _ _ _ T2.out) Tryz.underlying45 rfl (by kernel_rfl)) rfl ?_
  refine ⟨_, _, rfl, fun h => ?_, ?_, rowBelow L2.out HB.out.size _, keepRow K2.out (Nat.le_refl _) _⟩
  · rw [RS] at h; cases h
  · rw [RS]; exact ⟨rowOther _ S2.out.1 hne2, HI.out.2⟩
set_option maxHeartbeats 8000000 in
set_option maxRecDepth 100000 in
theorem word_n4 (s x : ByteArray) (at_ len n : Nat) (c : UInt8) (res : Tk × Nat × Int) (w0 w : World) (g : Nat) (hlt : ltB c = true) (h20 : ¬20 < n) (y : ByteArray) (RS : res = (⟨3, vlZ, ceZ, y, 0⟩, n, 0)) (HFo : Aside0 (value_Fold.f x = some y)) (HCo : Aside0 (∀ W, Calls Tryz.prog 45 #[.string x, .string ⟨#[36]⟩] W fun e w' => e = .returned (.bool false) ∧ Below W.heap.size W w'))
    (hsz : s.size = at_ + len) (hlen : at_ + len ≤ 1024) (hn : n ≤ len) (hpos : 0 < n) (hxs : x.size = n) (hx0 : ∀ hh : 0 < x.size, x[0]'hh = c)
    (HR : Aside0 (∀ W (h : IsSc w0 W g s (at_ : Int) 0) (b : Nat) (hb : W.heap[b]? = some (.cells #[ptV g] 46 (0, 0))), Calls Tryz.prog 53 #[.func (.func 44) #[] #[], ptV b] W fun e w' => e = .returned (.string x) ∧ Below W.heap.size W w'))
    (HF : Aside0 (∀ W, Calls Tryz.prog 42 #[.string (s.extract (at_ + n) (at_ + len)), .string ⟨#[40]⟩] W fun e w' => e = .returned (.bool true) ∧ Below W.heap.size W w'))
    (hI : IsSc w0 w g s (at_ : Int) 0) (hB : Below w0.heap.size w0 w) :
    Calls Tryz.prog 30 #[ptV g] w (OneOut s (at_ : Int) res w0 g w) := by
  have hgl := blk_lt hI.1
  have hne1 : w.heap.size ≠ g := by omega
  have hne2 : g ≠ w.heap.size := by omega
  have HI := Aside0.mk hI
  have HB := Aside0.mk hB
  clear hI hB
  have z0 : (0 : Int) ≤ (at_ : Int) + (n : Int) := by omega
  have z1 : (at_ : Int) + (n : Int) ≤ (at_ : Int) + (len : Int) := by omega
  have z2 : IntKind.i64.wrap ((at_ : Int) + (n : Int)) = (at_ : Int) + (n : Int) := by rw [i64_w]; unfold wrap64; omega
  have z3 : ((at_ : Int) + (n : Int)).toNat = at_ + n := by omega
  go_enter Tryz.func30, Tryz.ntmps30
  go_wp2_with (first
    | (go_at_call 38; (with_reducible refine (row_calls g _).mono ?_); rintro e w1 ⟨rfl, rfl⟩)
    | (go_at_call 53; (with_reducible refine (HR.out _ ((HI.out.alloc _).alloc _) _ (newBlk2 w _ _)).mono ?_); rintro e w1 ⟨rfl, hb⟩; have HB1 := Aside0.mk (below_step (bel2 w _ _) hb); have S0 := Aside0.mk (((HI.out.alloc _).alloc _).below hb); have T0 := Aside0.mk (blk_below (blk_alloc (newBlk w _) _) hb); clear hb))
  have hS2 := (show (fun w' => (IsSc w0 w' g s (at_ : Int) 0 ∧ w'.heap[w.heap.size]? = some (.cells ZTk 45 (0, 0)) ∧ KeepBut w w' g none ∧ Below w0.heap.size w0 w')) (w1.drew) from ⟨⟨blk_drew S0.out.1, HI.out.2⟩, blk_drew T0.out, keep_drew (KeepBut.of_below HB1.out g none), below_drew1 (low HB.out HB1.out)⟩)
  refine start_ (n := 13) (S := fun w' => (IsSc w0 w' g s (at_ : Int) 0 ∧ w'.heap[w.heap.size]? = some (.cells ZTk 45 (0, 0)) ∧ KeepBut w w' g none ∧ Below w0.heap.size w0 w')) (ds := []) #[false, false, false, false, false, false, false, false, false, false, false, false, false] (by kernel_rfl) rfl rfl hS2 (fun hHeld => ?_)
  refine with_tabW lwrd2.tab2 lwrd2.bits2 (fun HT_ HW_ => ?_)
  refine pureI 0 (some 12) HT_ rfl rfl (by kernel_rfl) (by rfl) (fun _ => by go_simp; with_reducible rfl) (by simp only [Act.put, List.setIfInBounds_toArray, List.set_cons_zero, List.set_cons_succ]; rfl) ?_
  refine pureI 1 (some 13) HT_ rfl rfl (by kernel_rfl) (by rfl) (fun _ => by go_simp; with_reducible rfl) (by simp only [Act.put, List.setIfInBounds_toArray, List.set_cons_zero, List.set_cons_succ]; rfl) ?_
  refine pureI 2 (some 14) HT_ rfl rfl (by kernel_rfl) (by rfl) (fun _ => by go_simp; with_reducible rfl) (by simp only [Act.put, List.setIfInBounds_toArray, List.set_cons_zero, List.set_cons_succ]; rfl) ?_
  refine pureI 4 (some 16) HT_ rfl rfl (by kernel_rfl) (by rfl) (fun _ => by go_simp; with_reducible rfl) (by simp only [Act.put, List.setIfInBounds_toArray, List.set_cons_zero, List.set_cons_succ]; rfl) ?_
  refine pureI 5 (some 17) HT_ rfl rfl (by kernel_rfl) (by rfl) (fun _ => by go_simp; with_reducible rfl) (by simp only [Act.put, List.setIfInBounds_toArray, List.set_cons_zero, List.set_cons_succ]; rfl) ?_
  refine pureI 6 (some 18) HT_ rfl rfl (by kernel_rfl) (by rfl) (fun _ => by go_simp; with_reducible rfl) (by simp only [Act.put, List.setIfInBounds_toArray, List.set_cons_zero, List.set_cons_succ]; rfl) ?_
  refine pureI 8 (some 20) HT_ rfl rfl (by kernel_rfl) (by rfl) (fun _ => by go_simp; with_reducible rfl) (by simp only [Act.put, List.setIfInBounds_toArray, List.set_cons_zero, List.set_cons_succ]; rfl) ?_
  refine pureI 9 (some 21) HT_ rfl rfl (by kernel_rfl) (by rfl) (fun _ => by go_simp; with_reducible rfl) (by simp only [Act.put, List.setIfInBounds_toArray, List.set_cons_zero, List.set_cons_succ]; rfl) ?_
  refine takeI 3 (some 15) HT_ HW_ rfl rfl (by kernel_rfl) (by rfl) (by rintro w' s0; have q0 := (blk_cell s0.1.1 0).trans (show _ = some (Value.string s) from rfl); have q1 := (blk_cell s0.1.1 1).trans (show _ = some (Value.int .i64 (at_ : Int)) from rfl); go_simp; with_reducible rfl) hHeld (by simp only [Act.put, List.setIfInBounds_toArray, List.set_cons_zero, List.set_cons_succ]; rfl) ?_
  refine takeI 7 (some 19) HT_ HW_ rfl rfl (by kernel_rfl) (by rfl) (by rintro w' s0; have q0 := (blk_cell s0.1.1 0).trans (show _ = some (Value.string s) from rfl); have q1 := (blk_cell s0.1.1 1).trans (show _ = some (Value.int .i64 (at_ : Int)) from rfl); go_simp; with_reducible rfl) hHeld (by simp only [Act.put, List.setIfInBounds_toArray, List.set_cons_zero, List.set_cons_succ]; rfl) ?_
  refine pureI 10 (some 22) HT_ rfl rfl (by kernel_rfl) (by rfl) (fun _ => by go_simp; with_reducible rfl) (by simp only [Act.put, List.setIfInBounds_toArray, List.set_cons_zero, List.set_cons_succ]; rfl) ?_
  refine pureI 11 (some 23) HT_ rfl rfl (by kernel_rfl) (by rfl) (fun _ => by go_simp; with_reducible rfl) (by simp only [Act.put, List.setIfInBounds_toArray, List.set_cons_zero, List.set_cons_succ]; rfl) ?_
  refine oneI 12 (some 24) HT_ rfl rfl (by kernel_rfl) (by decide) (fun K hK => ?_)
  refine goes_ Tryz.func42 (by kernel_rfl) rfl #[.string (s.extract (at_ + n) (at_ + len)), .string ⟨#[40]⟩] (by (try simp only [List.map_toArray, List.map_cons, List.map_nil]); first | done | rfl) rfl rfl (by first | rfl | ((try simp only [List.map_toArray, List.map_cons, List.map_nil]); first | done | rfl)) ?_
  with_reducible refine (HF.out _).mono ?_
  rintro e w9 ⟨rfl, hb⟩
  refine ⟨_, rfl, ?_⟩
  refine hK.out _ _ ⟨hHeld.1.below hb, blk_below hHeld.2.1 hb, hHeld.2.2.1.trans (KeepBut.of_below hb g none) (.inl rfl), low hHeld.2.2.2 hb⟩ (fun hHeld => ?_)
  clear hK K
  refine norm_ (a' := ?_) ?_ ?_
  rotate_left
  · show Act.put _ (some 24) _ = _
    simp only [Act.put, List.setIfInBounds_toArray, List.set_cons_zero, List.set_cons_succ]
    rfl
  refine done_ (done_of HT_.out (by kernel_rfl)) ?_
  have S1 := Aside0.mk hHeld.1
  have T1 := Aside0.mk hHeld.2.1
  have KB := Aside0.mk hHeld.2.2.1
  have LB := Aside0.mk hHeld.2.2.2
  clear hHeld S0 T0 HB1 HF HR z0 z1 z2 z3
  have hc := fun i => blk_cell S1.out.1 i
  have hf := fun i => blk_frozen S1.out.1 i
  have d20 : decide ((n : Int) > 20) = false := decide_eq_false (by omega)
  have e20 : ¬(n : Int) > 20 := by omega
  go_wp2_with (first
    | (go_at_call 29; (with_reducible refine (lexLetter_calls c _).mono ?_); rintro e w2 ⟨rfl, hb⟩; replace S1 := Aside0.mk (S1.out.below hb); replace T1 := Aside0.mk (blk_below T1.out hb); replace KB := Aside0.mk (KB.out.trans (KeepBut.of_below hb g none) (.inl rfl)); replace LB := Aside0.mk (low LB.out hb); clear hb; replace hc := fun i => blk_cell S1.out.1 i; replace hf := fun i => blk_frozen S1.out.1 i)
    | (go_at_call 45; refine (HCo.out _).mono ?_; rintro e w3 ⟨rfl, hb⟩; replace S1 := Aside0.mk (S1.out.below hb); replace T1 := Aside0.mk (blk_below T1.out hb); replace KB := Aside0.mk (KB.out.trans (KeepBut.of_below hb g none) (.inl rfl)); replace LB := Aside0.mk (low LB.out hb); clear hb; replace hc := fun i => blk_cell S1.out.1 i; replace hf := fun i => blk_frozen S1.out.1 i)
    | (go_at_call 46; refine (value_Fold.calls _ _ _ HFo.out).mono ?_; rintro e w4 ⟨rfl, hb⟩; replace S1 := Aside0.mk (S1.out.below hb); replace T1 := Aside0.mk (blk_below T1.out hb); replace KB := Aside0.mk (KB.out.trans (KeepBut.of_below hb g none) (.inl rfl)); replace LB := Aside0.mk (low LB.out hb); clear hb)
    | ((with_reducible refine gate_store (t := 45) (p := 2) (v := .tmp 43) rfl ?_); refine wpRowSt rfl 45 (.tmp 2) (.tmp 43) rfl (w.heap.size) (TkA ⟨3, vlZ, ceZ, y, 0⟩) rfl rfl 45 _ T1.out (by kernel_rfl) rfl rfl ?_))
  refine bodyPost_ret (results_ct rfl _ _ (w.heap.size) 45 (TkA ⟨3, vlZ, ceZ, y, 0⟩) (0, 0) _ rfl (setRow_heap _ _ _ _ _ _ T1.out) Tryz.underlying45 rfl (by kernel_rfl)) rfl ?_
  refine ⟨_, _, rfl, fun h => ?_, ?_, rowBelow LB.out HB.out.size _, keepRow KB.out (Nat.le_refl _) _⟩
  · rw [RS]; exact ⟨rfl, rfl⟩
  · rw [RS]; exact ⟨rowOther _ S1.out.1 hne2, HI.out.2⟩
set_option maxHeartbeats 8000000 in
set_option maxRecDepth 100000 in
theorem word_t1 (s x : ByteArray) (at_ len n : Nat) (c : UInt8) (res : Tk × Nat × Int) (w0 w : World) (g : Nat) (nn k : Int) (sv : ByteArray) (b : Bool) (HRd : Aside0 (value_Read.f 1 x = some (3, nn, sv, b, k, 0))) (RS : res = (⟨1, ⟨3, nn, sv, b, k⟩, ceZ, bl [], 0⟩, n, 0))
    (hsz : s.size = at_ + len) (hlen : at_ + len ≤ 1024) (hn : n ≤ len) (hpos : 0 < n) (hxs : x.size = n) (hx0 : ∀ hh : 0 < x.size, x[0]'hh = c)
    (HR : Aside0 (∀ W (h : IsSc w0 W g s (at_ : Int) 0) (b : Nat) (hb : W.heap[b]? = some (.cells #[ptV g] 46 (0, 0))), Calls Tryz.prog 53 #[.func (.func 44) #[] #[], ptV b] W fun e w' => e = .returned (.string x) ∧ Below W.heap.size W w'))
    (HF : Aside0 (∀ W, Calls Tryz.prog 42 #[.string (s.extract (at_ + n) (at_ + len)), .string ⟨#[40]⟩] W fun e w' => e = .returned (.bool false) ∧ Below W.heap.size W w'))
    (hI : IsSc w0 w g s (at_ : Int) 0) (hB : Below w0.heap.size w0 w) :
    Calls Tryz.prog 30 #[ptV g] w (OneOut s (at_ : Int) res w0 g w) := by
  have hgl := blk_lt hI.1
  have hne1 : w.heap.size ≠ g := by omega
  have hne2 : g ≠ w.heap.size := by omega
  have HI := Aside0.mk hI
  have HB := Aside0.mk hB
  clear hI hB
  have z0 : (0 : Int) ≤ (at_ : Int) + (n : Int) := by omega
  have z1 : (at_ : Int) + (n : Int) ≤ (at_ : Int) + (len : Int) := by omega
  have z2 : IntKind.i64.wrap ((at_ : Int) + (n : Int)) = (at_ : Int) + (n : Int) := by rw [i64_w]; unfold wrap64; omega
  have z3 : ((at_ : Int) + (n : Int)).toNat = at_ + n := by omega
  go_enter Tryz.func30, Tryz.ntmps30
  go_wp2_with (first
    | (go_at_call 38; (with_reducible refine (row_calls g _).mono ?_); rintro e w1 ⟨rfl, rfl⟩)
    | (go_at_call 53; (with_reducible refine (HR.out _ ((HI.out.alloc _).alloc _) _ (newBlk2 w _ _)).mono ?_); rintro e w1 ⟨rfl, hb⟩; have HB1 := Aside0.mk (below_step (bel2 w _ _) hb); have S0 := Aside0.mk (((HI.out.alloc _).alloc _).below hb); have T0 := Aside0.mk (blk_below (blk_alloc (newBlk w _) _) hb); clear hb))
  have hS2 := (show (fun w' => (IsSc w0 w' g s (at_ : Int) 0 ∧ w'.heap[w.heap.size]? = some (.cells ZTk 45 (0, 0)) ∧ KeepBut w w' g none ∧ Below w0.heap.size w0 w')) (w1.drew) from ⟨⟨blk_drew S0.out.1, HI.out.2⟩, blk_drew T0.out, keep_drew (KeepBut.of_below HB1.out g none), below_drew1 (low HB.out HB1.out)⟩)
  refine start_ (n := 13) (S := fun w' => (IsSc w0 w' g s (at_ : Int) 0 ∧ w'.heap[w.heap.size]? = some (.cells ZTk 45 (0, 0)) ∧ KeepBut w w' g none ∧ Below w0.heap.size w0 w')) (ds := []) #[false, false, false, false, false, false, false, false, false, false, false, false, false] (by kernel_rfl) rfl rfl hS2 (fun hHeld => ?_)
  refine with_tabW lwrd2.tab2 lwrd2.bits2 (fun HT_ HW_ => ?_)
  refine pureI 0 (some 12) HT_ rfl rfl (by kernel_rfl) (by rfl) (fun _ => by go_simp; with_reducible rfl) (by simp only [Act.put, List.setIfInBounds_toArray, List.set_cons_zero, List.set_cons_succ]; rfl) ?_
  refine pureI 1 (some 13) HT_ rfl rfl (by kernel_rfl) (by rfl) (fun _ => by go_simp; with_reducible rfl) (by simp only [Act.put, List.setIfInBounds_toArray, List.set_cons_zero, List.set_cons_succ]; rfl) ?_
  refine pureI 2 (some 14) HT_ rfl rfl (by kernel_rfl) (by rfl) (fun _ => by go_simp; with_reducible rfl) (by simp only [Act.put, List.setIfInBounds_toArray, List.set_cons_zero, List.set_cons_succ]; rfl) ?_
  refine pureI 4 (some 16) HT_ rfl rfl (by kernel_rfl) (by rfl) (fun _ => by go_simp; with_reducible rfl) (by simp only [Act.put, List.setIfInBounds_toArray, List.set_cons_zero, List.set_cons_succ]; rfl) ?_
  refine pureI 5 (some 17) HT_ rfl rfl (by kernel_rfl) (by rfl) (fun _ => by go_simp; with_reducible rfl) (by simp only [Act.put, List.setIfInBounds_toArray, List.set_cons_zero, List.set_cons_succ]; rfl) ?_
  refine pureI 6 (some 18) HT_ rfl rfl (by kernel_rfl) (by rfl) (fun _ => by go_simp; with_reducible rfl) (by simp only [Act.put, List.setIfInBounds_toArray, List.set_cons_zero, List.set_cons_succ]; rfl) ?_
  refine pureI 8 (some 20) HT_ rfl rfl (by kernel_rfl) (by rfl) (fun _ => by go_simp; with_reducible rfl) (by simp only [Act.put, List.setIfInBounds_toArray, List.set_cons_zero, List.set_cons_succ]; rfl) ?_
  refine pureI 9 (some 21) HT_ rfl rfl (by kernel_rfl) (by rfl) (fun _ => by go_simp; with_reducible rfl) (by simp only [Act.put, List.setIfInBounds_toArray, List.set_cons_zero, List.set_cons_succ]; rfl) ?_
  refine takeI 3 (some 15) HT_ HW_ rfl rfl (by kernel_rfl) (by rfl) (by rintro w' s0; have q0 := (blk_cell s0.1.1 0).trans (show _ = some (Value.string s) from rfl); have q1 := (blk_cell s0.1.1 1).trans (show _ = some (Value.int .i64 (at_ : Int)) from rfl); go_simp; with_reducible rfl) hHeld (by simp only [Act.put, List.setIfInBounds_toArray, List.set_cons_zero, List.set_cons_succ]; rfl) ?_
  refine takeI 7 (some 19) HT_ HW_ rfl rfl (by kernel_rfl) (by rfl) (by rintro w' s0; have q0 := (blk_cell s0.1.1 0).trans (show _ = some (Value.string s) from rfl); have q1 := (blk_cell s0.1.1 1).trans (show _ = some (Value.int .i64 (at_ : Int)) from rfl); go_simp; with_reducible rfl) hHeld (by simp only [Act.put, List.setIfInBounds_toArray, List.set_cons_zero, List.set_cons_succ]; rfl) ?_
  refine pureI 10 (some 22) HT_ rfl rfl (by kernel_rfl) (by rfl) (fun _ => by go_simp; with_reducible rfl) (by simp only [Act.put, List.setIfInBounds_toArray, List.set_cons_zero, List.set_cons_succ]; rfl) ?_
  refine pureI 11 (some 23) HT_ rfl rfl (by kernel_rfl) (by rfl) (fun _ => by go_simp; with_reducible rfl) (by simp only [Act.put, List.setIfInBounds_toArray, List.set_cons_zero, List.set_cons_succ]; rfl) ?_
  refine oneI 12 (some 24) HT_ rfl rfl (by kernel_rfl) (by decide) (fun K hK => ?_)
  refine goes_ Tryz.func42 (by kernel_rfl) rfl #[.string (s.extract (at_ + n) (at_ + len)), .string ⟨#[40]⟩] (by (try simp only [List.map_toArray, List.map_cons, List.map_nil]); first | done | rfl) rfl rfl (by first | rfl | ((try simp only [List.map_toArray, List.map_cons, List.map_nil]); first | done | rfl)) ?_
  with_reducible refine (HF.out _).mono ?_
  rintro e w9 ⟨rfl, hb⟩
  refine ⟨_, rfl, ?_⟩
  refine hK.out _ _ ⟨hHeld.1.below hb, blk_below hHeld.2.1 hb, hHeld.2.2.1.trans (KeepBut.of_below hb g none) (.inl rfl), low hHeld.2.2.2 hb⟩ (fun hHeld => ?_)
  clear hK K
  refine norm_ (a' := ?_) ?_ ?_
  rotate_left
  · show Act.put _ (some 24) _ = _
    simp only [Act.put, List.setIfInBounds_toArray, List.set_cons_zero, List.set_cons_succ]
    rfl
  refine done_ (done_of HT_.out (by kernel_rfl)) ?_
  have S1 := Aside0.mk hHeld.1
  have T1 := Aside0.mk hHeld.2.1
  have KB := Aside0.mk hHeld.2.2.1
  have LB := Aside0.mk hHeld.2.2.2
  clear hHeld S0 T0 HB1 HF HR z0 z1 z2 z3
  have hc := fun i => blk_cell S1.out.1 i
  have hf := fun i => blk_frozen S1.out.1 i
  go_wp2_with (first
    | (go_at_call 47; refine (value_Read.calls 1 _ _ _ _ _ _ _ _ HRd.out).mono ?_; rintro e w2 ⟨rfl, hb⟩; replace S1 := Aside0.mk (S1.out.below hb); replace T1 := Aside0.mk (blk_below T1.out hb); replace KB := Aside0.mk (KB.out.trans (KeepBut.of_below hb g none) (.inl rfl)); replace LB := Aside0.mk (low LB.out hb); clear hb)
    | ((with_reducible refine gate_store (t := 45) (p := 2) (v := .tmp 59) rfl ?_); refine wpRowSt rfl 45 (.tmp 2) (.tmp 59) rfl (w.heap.size) (TkA ⟨1, ⟨3, nn, sv, b, k⟩, ceZ, bl [], 0⟩) rfl rfl 45 _ (blk_alloc T1.out _) (by kernel_rfl) rfl rfl ?_))
  refine bodyPost_ret (results_ct rfl _ _ (w.heap.size) 45 (TkA ⟨1, ⟨3, nn, sv, b, k⟩, ceZ, bl [], 0⟩) (0, 0) _ rfl (setRow_heap _ _ _ _ _ _ (blk_alloc T1.out _)) Tryz.underlying45 rfl (by kernel_rfl)) rfl ?_
  refine ⟨_, _, rfl, fun h => ?_, ?_, rowBelow (low LB.out (bel1 w2 _)) HB.out.size _, keepRow (KB.out.trans (KeepBut.of_below (bel1 w2 _) g none) (.inl rfl)) (Nat.le_refl _) _⟩
  · rw [RS]; exact ⟨rfl, rfl⟩
  · rw [RS]; exact ⟨rowOther _ (blk_alloc S1.out.1 _) hne2, HI.out.2⟩
set_option maxHeartbeats 8000000 in
set_option maxRecDepth 100000 in
theorem word_t2 (s x : ByteArray) (at_ len n : Nat) (c : UInt8) (res : Tk × Nat × Int) (w0 w : World) (g : Nat) (K nn k : Int) (sv : ByteArray) (b : Bool) (HRd : Aside0 (value_Read.f 1 x = some (K, nn, sv, b, k, 0))) (hK : ¬K = 3) (cc : Ce) (ep : Int) (HPl : Aside0 (∀ W, Calls Tryz.prog 48 #[.string x] W fun e w' => e = .returned (.tuple #[.agg #[.int .i64 cc.f0.f0, .int .i64 cc.f0.f1, .bool cc.f1, .bool cc.f2], .int .i64 ep]) ∧ Below W.heap.size W w')) (RS : res.2.2 = ep ∧ (ep = 0 → res.1 = tkC cc ∧ res.2.1 = n))
    (hsz : s.size = at_ + len) (hlen : at_ + len ≤ 1024) (hn : n ≤ len) (hpos : 0 < n) (hxs : x.size = n) (hx0 : ∀ hh : 0 < x.size, x[0]'hh = c)
    (HR : Aside0 (∀ W (h : IsSc w0 W g s (at_ : Int) 0) (b : Nat) (hb : W.heap[b]? = some (.cells #[ptV g] 46 (0, 0))), Calls Tryz.prog 53 #[.func (.func 44) #[] #[], ptV b] W fun e w' => e = .returned (.string x) ∧ Below W.heap.size W w'))
    (HF : Aside0 (∀ W, Calls Tryz.prog 42 #[.string (s.extract (at_ + n) (at_ + len)), .string ⟨#[40]⟩] W fun e w' => e = .returned (.bool false) ∧ Below W.heap.size W w'))
    (hI : IsSc w0 w g s (at_ : Int) 0) (hB : Below w0.heap.size w0 w) :
    Calls Tryz.prog 30 #[ptV g] w (OneOut s (at_ : Int) res w0 g w) := by
  have hgl := blk_lt hI.1
  have hne1 : w.heap.size ≠ g := by omega
  have hne2 : g ≠ w.heap.size := by omega
  have HI := Aside0.mk hI
  have HB := Aside0.mk hB
  clear hI hB
  have z0 : (0 : Int) ≤ (at_ : Int) + (n : Int) := by omega
  have z1 : (at_ : Int) + (n : Int) ≤ (at_ : Int) + (len : Int) := by omega
  have z2 : IntKind.i64.wrap ((at_ : Int) + (n : Int)) = (at_ : Int) + (n : Int) := by rw [i64_w]; unfold wrap64; omega
  have z3 : ((at_ : Int) + (n : Int)).toNat = at_ + n := by omega
  go_enter Tryz.func30, Tryz.ntmps30
  go_wp2_with (first
    | (go_at_call 38; (with_reducible refine (row_calls g _).mono ?_); rintro e w1 ⟨rfl, rfl⟩)
    | (go_at_call 53; (with_reducible refine (HR.out _ ((HI.out.alloc _).alloc _) _ (newBlk2 w _ _)).mono ?_); rintro e w1 ⟨rfl, hb⟩; have HB1 := Aside0.mk (below_step (bel2 w _ _) hb); have S0 := Aside0.mk (((HI.out.alloc _).alloc _).below hb); have T0 := Aside0.mk (blk_below (blk_alloc (newBlk w _) _) hb); clear hb))
  have hS2 := (show (fun w' => (IsSc w0 w' g s (at_ : Int) 0 ∧ w'.heap[w.heap.size]? = some (.cells ZTk 45 (0, 0)) ∧ KeepBut w w' g none ∧ Below w0.heap.size w0 w')) (w1.drew) from ⟨⟨blk_drew S0.out.1, HI.out.2⟩, blk_drew T0.out, keep_drew (KeepBut.of_below HB1.out g none), below_drew1 (low HB.out HB1.out)⟩)
  refine start_ (n := 13) (S := fun w' => (IsSc w0 w' g s (at_ : Int) 0 ∧ w'.heap[w.heap.size]? = some (.cells ZTk 45 (0, 0)) ∧ KeepBut w w' g none ∧ Below w0.heap.size w0 w')) (ds := []) #[false, false, false, false, false, false, false, false, false, false, false, false, false] (by kernel_rfl) rfl rfl hS2 (fun hHeld => ?_)
  refine with_tabW lwrd2.tab2 lwrd2.bits2 (fun HT_ HW_ => ?_)
  refine pureI 0 (some 12) HT_ rfl rfl (by kernel_rfl) (by rfl) (fun _ => by go_simp; with_reducible rfl) (by simp only [Act.put, List.setIfInBounds_toArray, List.set_cons_zero, List.set_cons_succ]; rfl) ?_
  refine pureI 1 (some 13) HT_ rfl rfl (by kernel_rfl) (by rfl) (fun _ => by go_simp; with_reducible rfl) (by simp only [Act.put, List.setIfInBounds_toArray, List.set_cons_zero, List.set_cons_succ]; rfl) ?_
  refine pureI 2 (some 14) HT_ rfl rfl (by kernel_rfl) (by rfl) (fun _ => by go_simp; with_reducible rfl) (by simp only [Act.put, List.setIfInBounds_toArray, List.set_cons_zero, List.set_cons_succ]; rfl) ?_
  refine pureI 4 (some 16) HT_ rfl rfl (by kernel_rfl) (by rfl) (fun _ => by go_simp; with_reducible rfl) (by simp only [Act.put, List.setIfInBounds_toArray, List.set_cons_zero, List.set_cons_succ]; rfl) ?_
  refine pureI 5 (some 17) HT_ rfl rfl (by kernel_rfl) (by rfl) (fun _ => by go_simp; with_reducible rfl) (by simp only [Act.put, List.setIfInBounds_toArray, List.set_cons_zero, List.set_cons_succ]; rfl) ?_
  refine pureI 6 (some 18) HT_ rfl rfl (by kernel_rfl) (by rfl) (fun _ => by go_simp; with_reducible rfl) (by simp only [Act.put, List.setIfInBounds_toArray, List.set_cons_zero, List.set_cons_succ]; rfl) ?_
  refine pureI 8 (some 20) HT_ rfl rfl (by kernel_rfl) (by rfl) (fun _ => by go_simp; with_reducible rfl) (by simp only [Act.put, List.setIfInBounds_toArray, List.set_cons_zero, List.set_cons_succ]; rfl) ?_
  refine pureI 9 (some 21) HT_ rfl rfl (by kernel_rfl) (by rfl) (fun _ => by go_simp; with_reducible rfl) (by simp only [Act.put, List.setIfInBounds_toArray, List.set_cons_zero, List.set_cons_succ]; rfl) ?_
  refine takeI 3 (some 15) HT_ HW_ rfl rfl (by kernel_rfl) (by rfl) (by rintro w' s0; have q0 := (blk_cell s0.1.1 0).trans (show _ = some (Value.string s) from rfl); have q1 := (blk_cell s0.1.1 1).trans (show _ = some (Value.int .i64 (at_ : Int)) from rfl); go_simp; with_reducible rfl) hHeld (by simp only [Act.put, List.setIfInBounds_toArray, List.set_cons_zero, List.set_cons_succ]; rfl) ?_
  refine takeI 7 (some 19) HT_ HW_ rfl rfl (by kernel_rfl) (by rfl) (by rintro w' s0; have q0 := (blk_cell s0.1.1 0).trans (show _ = some (Value.string s) from rfl); have q1 := (blk_cell s0.1.1 1).trans (show _ = some (Value.int .i64 (at_ : Int)) from rfl); go_simp; with_reducible rfl) hHeld (by simp only [Act.put, List.setIfInBounds_toArray, List.set_cons_zero, List.set_cons_succ]; rfl) ?_
  refine pureI 10 (some 22) HT_ rfl rfl (by kernel_rfl) (by rfl) (fun _ => by go_simp; with_reducible rfl) (by simp only [Act.put, List.setIfInBounds_toArray, List.set_cons_zero, List.set_cons_succ]; rfl) ?_
  refine pureI 11 (some 23) HT_ rfl rfl (by kernel_rfl) (by rfl) (fun _ => by go_simp; with_reducible rfl) (by simp only [Act.put, List.setIfInBounds_toArray, List.set_cons_zero, List.set_cons_succ]; rfl) ?_
  refine oneI 12 (some 24) HT_ rfl rfl (by kernel_rfl) (by decide) (fun K hK => ?_)
  refine goes_ Tryz.func42 (by kernel_rfl) rfl #[.string (s.extract (at_ + n) (at_ + len)), .string ⟨#[40]⟩] (by (try simp only [List.map_toArray, List.map_cons, List.map_nil]); first | done | rfl) rfl rfl (by first | rfl | ((try simp only [List.map_toArray, List.map_cons, List.map_nil]); first | done | rfl)) ?_
  with_reducible refine (HF.out _).mono ?_
  rintro e w9 ⟨rfl, hb⟩
  refine ⟨_, rfl, ?_⟩
  refine hK.out _ _ ⟨hHeld.1.below hb, blk_below hHeld.2.1 hb, hHeld.2.2.1.trans (KeepBut.of_below hb g none) (.inl rfl), low hHeld.2.2.2 hb⟩ (fun hHeld => ?_)
  clear hK K
  refine norm_ (a' := ?_) ?_ ?_
  rotate_left
  · show Act.put _ (some 24) _ = _
    simp only [Act.put, List.setIfInBounds_toArray, List.set_cons_zero, List.set_cons_succ]
    rfl
  refine done_ (done_of HT_.out (by kernel_rfl)) ?_
  have S1 := Aside0.mk hHeld.1
  have T1 := Aside0.mk hHeld.2.1
  have KB := Aside0.mk hHeld.2.2.1
  have LB := Aside0.mk hHeld.2.2.2
  clear hHeld S0 T0 HB1 HF HR z0 z1 z2 z3
  have hc := fun i => blk_cell S1.out.1 i
  have hf := fun i => blk_frozen S1.out.1 i
  have kb : (K == 3) = false := beq_eq_false_iff_ne.2 hK
  go_wp2_with (first
    | (go_at_call 47; refine (value_Read.calls 1 _ _ _ _ _ _ _ _ HRd.out).mono ?_; rintro e w2 ⟨rfl, hb⟩; replace S1 := Aside0.mk (S1.out.below hb); replace T1 := Aside0.mk (blk_below T1.out hb); replace KB := Aside0.mk (KB.out.trans (KeepBut.of_below hb g none) (.inl rfl)); replace LB := Aside0.mk (low LB.out hb); clear hb)
    | (go_at_call 48; refine (HPl.out _).mono ?_; rintro e w3 ⟨rfl, hb⟩; replace KB := Aside0.mk ((KB.out.trans (KeepBut.of_below (bel1 w2 _) g none) (.inl rfl)).trans (KeepBut.of_below hb g none) (.inl rfl)); replace LB := Aside0.mk (low (low LB.out (bel1 w2 _)) hb); replace S1 := Aside0.mk (IsSc.below (S1.out.alloc _) hb); replace T1 := Aside0.mk (blk_below (blk_alloc T1.out _) hb); clear hb; have hneC := (show w3.heap.size ≠ g from Nat.ne_of_gt (blk_lt S1.out.1)); replace hc := fun i => blk_cell S1.out.1 i; replace hf := fun i => blk_frozen S1.out.1 i; have hc2 := fun (o : Obj) (i : Nat) => blk_cell (blk_alloc S1.out.1 o) i; have hf2 := fun (o : Obj) (i : Nat) => blk_frozen (blk_alloc S1.out.1 o) i)
    | ((with_reducible refine gate_dst (N := 71) rfl ?_); refine wpPartLd 71 rfl rfl 43 (.tmp 7) rfl _ rfl _ (CeA cc) [] (blk_far (p := ⟨g, 2, none⟩) (newBlk w3 _) hneC _) rfl Tryz.underlying43 rfl (by kernel_rfl) ?_)
    | ((with_reducible refine gate_store (t := 45) (p := 2) (v := .tmp 72) rfl ?_); refine wpRowSt rfl 45 (.tmp 2) (.tmp 72) rfl (w.heap.size) (TkA (tkC cc)) rfl rfl 45 _ (blk_far (p := ⟨g, 2, none⟩) (blk_alloc T1.out _) hne1 _) (by kernel_rfl) rfl rfl ?_))
  refine bodyPost_ret (results_ct rfl _ _ (w.heap.size) 45 (TkA (tkC cc)) (0, 0) _ rfl (setRow_heap _ _ _ _ _ _ (blk_far (p := ⟨g, 2, none⟩) (blk_alloc T1.out _) hne1 _)) Tryz.underlying45 rfl (by kernel_rfl)) rfl ?_
  refine ⟨_, _, rfl, fun h => ?_, ?_, rowBelow ((low LB.out (bel1 w3 _)).setCell (p := ⟨g, 2, none⟩) HI.out.2 _) HB.out.size _, keepRow ((KB.out.trans (KeepBut.of_below (bel1 w3 _) g none) (.inl rfl)).set_ 2 _) (Nat.le_refl _) _⟩
  · have h3 := RS.2 (RS.1.symm.trans h)
    exact ⟨h3.1.symm, by rw [h3.2]⟩
  · rw [RS.1]; exact ⟨rowOther _ (blk_put (blk_alloc S1.out.1 _) 2 _ rfl) hne2, HI.out.2⟩
set_option maxHeartbeats 8000000 in
set_option maxRecDepth 100000 in
theorem word_t3 (s x : ByteArray) (at_ len n : Nat) (c : UInt8) (res : Tk × Nat × Int) (w0 w : World) (g : Nat) (K nn k er : Int) (sv : ByteArray) (b : Bool) (HRd : Aside0 (value_Read.f 1 x = some (K, nn, sv, b, k, er))) (her : ¬er = 0) (cc : Ce) (ep : Int) (HPl : Aside0 (∀ W, Calls Tryz.prog 48 #[.string x] W fun e w' => e = .returned (.tuple #[.agg #[.int .i64 cc.f0.f0, .int .i64 cc.f0.f1, .bool cc.f1, .bool cc.f2], .int .i64 ep]) ∧ Below W.heap.size W w')) (RS : res.2.2 = ep ∧ (ep = 0 → res.1 = tkC cc ∧ res.2.1 = n))
    (hsz : s.size = at_ + len) (hlen : at_ + len ≤ 1024) (hn : n ≤ len) (hpos : 0 < n) (hxs : x.size = n) (hx0 : ∀ hh : 0 < x.size, x[0]'hh = c)
    (HR : Aside0 (∀ W (h : IsSc w0 W g s (at_ : Int) 0) (b : Nat) (hb : W.heap[b]? = some (.cells #[ptV g] 46 (0, 0))), Calls Tryz.prog 53 #[.func (.func 44) #[] #[], ptV b] W fun e w' => e = .returned (.string x) ∧ Below W.heap.size W w'))
    (HF : Aside0 (∀ W, Calls Tryz.prog 42 #[.string (s.extract (at_ + n) (at_ + len)), .string ⟨#[40]⟩] W fun e w' => e = .returned (.bool false) ∧ Below W.heap.size W w'))
    (hI : IsSc w0 w g s (at_ : Int) 0) (hB : Below w0.heap.size w0 w) :
    Calls Tryz.prog 30 #[ptV g] w (OneOut s (at_ : Int) res w0 g w) := by
  have hgl := blk_lt hI.1
  have hne1 : w.heap.size ≠ g := by omega
  have hne2 : g ≠ w.heap.size := by omega
  have HI := Aside0.mk hI
  have HB := Aside0.mk hB
  clear hI hB
  have z0 : (0 : Int) ≤ (at_ : Int) + (n : Int) := by omega
  have z1 : (at_ : Int) + (n : Int) ≤ (at_ : Int) + (len : Int) := by omega
  have z2 : IntKind.i64.wrap ((at_ : Int) + (n : Int)) = (at_ : Int) + (n : Int) := by rw [i64_w]; unfold wrap64; omega
  have z3 : ((at_ : Int) + (n : Int)).toNat = at_ + n := by omega
  go_enter Tryz.func30, Tryz.ntmps30
  go_wp2_with (first
    | (go_at_call 38; (with_reducible refine (row_calls g _).mono ?_); rintro e w1 ⟨rfl, rfl⟩)
    | (go_at_call 53; (with_reducible refine (HR.out _ ((HI.out.alloc _).alloc _) _ (newBlk2 w _ _)).mono ?_); rintro e w1 ⟨rfl, hb⟩; have HB1 := Aside0.mk (below_step (bel2 w _ _) hb); have S0 := Aside0.mk (((HI.out.alloc _).alloc _).below hb); have T0 := Aside0.mk (blk_below (blk_alloc (newBlk w _) _) hb); clear hb))
  have hS2 := (show (fun w' => (IsSc w0 w' g s (at_ : Int) 0 ∧ w'.heap[w.heap.size]? = some (.cells ZTk 45 (0, 0)) ∧ KeepBut w w' g none ∧ Below w0.heap.size w0 w')) (w1.drew) from ⟨⟨blk_drew S0.out.1, HI.out.2⟩, blk_drew T0.out, keep_drew (KeepBut.of_below HB1.out g none), below_drew1 (low HB.out HB1.out)⟩)
  refine start_ (n := 13) (S := fun w' => (IsSc w0 w' g s (at_ : Int) 0 ∧ w'.heap[w.heap.size]? = some (.cells ZTk 45 (0, 0)) ∧ KeepBut w w' g none ∧ Below w0.heap.size w0 w')) (ds := []) #[false, false, false, false, false, false, false, false, false, false, false, false, false] (by kernel_rfl) rfl rfl hS2 (fun hHeld => ?_)
  refine with_tabW lwrd2.tab2 lwrd2.bits2 (fun HT_ HW_ => ?_)
  refine pureI 0 (some 12) HT_ rfl rfl (by kernel_rfl) (by rfl) (fun _ => by go_simp; with_reducible rfl) (by simp only [Act.put, List.setIfInBounds_toArray, List.set_cons_zero, List.set_cons_succ]; rfl) ?_
  refine pureI 1 (some 13) HT_ rfl rfl (by kernel_rfl) (by rfl) (fun _ => by go_simp; with_reducible rfl) (by simp only [Act.put, List.setIfInBounds_toArray, List.set_cons_zero, List.set_cons_succ]; rfl) ?_
  refine pureI 2 (some 14) HT_ rfl rfl (by kernel_rfl) (by rfl) (fun _ => by go_simp; with_reducible rfl) (by simp only [Act.put, List.setIfInBounds_toArray, List.set_cons_zero, List.set_cons_succ]; rfl) ?_
  refine pureI 4 (some 16) HT_ rfl rfl (by kernel_rfl) (by rfl) (fun _ => by go_simp; with_reducible rfl) (by simp only [Act.put, List.setIfInBounds_toArray, List.set_cons_zero, List.set_cons_succ]; rfl) ?_
  refine pureI 5 (some 17) HT_ rfl rfl (by kernel_rfl) (by rfl) (fun _ => by go_simp; with_reducible rfl) (by simp only [Act.put, List.setIfInBounds_toArray, List.set_cons_zero, List.set_cons_succ]; rfl) ?_
  refine pureI 6 (some 18) HT_ rfl rfl (by kernel_rfl) (by rfl) (fun _ => by go_simp; with_reducible rfl) (by simp only [Act.put, List.setIfInBounds_toArray, List.set_cons_zero, List.set_cons_succ]; rfl) ?_
  refine pureI 8 (some 20) HT_ rfl rfl (by kernel_rfl) (by rfl) (fun _ => by go_simp; with_reducible rfl) (by simp only [Act.put, List.setIfInBounds_toArray, List.set_cons_zero, List.set_cons_succ]; rfl) ?_
  refine pureI 9 (some 21) HT_ rfl rfl (by kernel_rfl) (by rfl) (fun _ => by go_simp; with_reducible rfl) (by simp only [Act.put, List.setIfInBounds_toArray, List.set_cons_zero, List.set_cons_succ]; rfl) ?_
  refine takeI 3 (some 15) HT_ HW_ rfl rfl (by kernel_rfl) (by rfl) (by rintro w' s0; have q0 := (blk_cell s0.1.1 0).trans (show _ = some (Value.string s) from rfl); have q1 := (blk_cell s0.1.1 1).trans (show _ = some (Value.int .i64 (at_ : Int)) from rfl); go_simp; with_reducible rfl) hHeld (by simp only [Act.put, List.setIfInBounds_toArray, List.set_cons_zero, List.set_cons_succ]; rfl) ?_
  refine takeI 7 (some 19) HT_ HW_ rfl rfl (by kernel_rfl) (by rfl) (by rintro w' s0; have q0 := (blk_cell s0.1.1 0).trans (show _ = some (Value.string s) from rfl); have q1 := (blk_cell s0.1.1 1).trans (show _ = some (Value.int .i64 (at_ : Int)) from rfl); go_simp; with_reducible rfl) hHeld (by simp only [Act.put, List.setIfInBounds_toArray, List.set_cons_zero, List.set_cons_succ]; rfl) ?_
  refine pureI 10 (some 22) HT_ rfl rfl (by kernel_rfl) (by rfl) (fun _ => by go_simp; with_reducible rfl) (by simp only [Act.put, List.setIfInBounds_toArray, List.set_cons_zero, List.set_cons_succ]; rfl) ?_
  refine pureI 11 (some 23) HT_ rfl rfl (by kernel_rfl) (by rfl) (fun _ => by go_simp; with_reducible rfl) (by simp only [Act.put, List.setIfInBounds_toArray, List.set_cons_zero, List.set_cons_succ]; rfl) ?_
  refine oneI 12 (some 24) HT_ rfl rfl (by kernel_rfl) (by decide) (fun K hK => ?_)
  refine goes_ Tryz.func42 (by kernel_rfl) rfl #[.string (s.extract (at_ + n) (at_ + len)), .string ⟨#[40]⟩] (by (try simp only [List.map_toArray, List.map_cons, List.map_nil]); first | done | rfl) rfl rfl (by first | rfl | ((try simp only [List.map_toArray, List.map_cons, List.map_nil]); first | done | rfl)) ?_
  with_reducible refine (HF.out _).mono ?_
  rintro e w9 ⟨rfl, hb⟩
  refine ⟨_, rfl, ?_⟩
  refine hK.out _ _ ⟨hHeld.1.below hb, blk_below hHeld.2.1 hb, hHeld.2.2.1.trans (KeepBut.of_below hb g none) (.inl rfl), low hHeld.2.2.2 hb⟩ (fun hHeld => ?_)
  clear hK K
  refine norm_ (a' := ?_) ?_ ?_
  rotate_left
  · show Act.put _ (some 24) _ = _
    simp only [Act.put, List.setIfInBounds_toArray, List.set_cons_zero, List.set_cons_succ]
    rfl
  refine done_ (done_of HT_.out (by kernel_rfl)) ?_
  have S1 := Aside0.mk hHeld.1
  have T1 := Aside0.mk hHeld.2.1
  have KB := Aside0.mk hHeld.2.2.1
  have LB := Aside0.mk hHeld.2.2.2
  clear hHeld S0 T0 HB1 HF HR z0 z1 z2 z3
  have hc := fun i => blk_cell S1.out.1 i
  have hf := fun i => blk_frozen S1.out.1 i
  have kb : (er == 0) = false := beq_eq_false_iff_ne.2 her
  go_wp2_with (first
    | (go_at_call 47; refine (value_Read.calls 1 _ _ _ _ _ _ _ _ HRd.out).mono ?_; rintro e w2 ⟨rfl, hb⟩; replace S1 := Aside0.mk (S1.out.below hb); replace T1 := Aside0.mk (blk_below T1.out hb); replace KB := Aside0.mk (KB.out.trans (KeepBut.of_below hb g none) (.inl rfl)); replace LB := Aside0.mk (low LB.out hb); clear hb)
    | (go_at_call 48; refine (HPl.out _).mono ?_; rintro e w3 ⟨rfl, hb⟩; replace KB := Aside0.mk ((KB.out.trans (KeepBut.of_below (bel1 w2 _) g none) (.inl rfl)).trans (KeepBut.of_below hb g none) (.inl rfl)); replace LB := Aside0.mk (low (low LB.out (bel1 w2 _)) hb); replace S1 := Aside0.mk (IsSc.below (S1.out.alloc _) hb); replace T1 := Aside0.mk (blk_below (blk_alloc T1.out _) hb); clear hb; have hneC := (show w3.heap.size ≠ g from Nat.ne_of_gt (blk_lt S1.out.1)); replace hc := fun i => blk_cell S1.out.1 i; replace hf := fun i => blk_frozen S1.out.1 i; have hc2 := fun (o : Obj) (i : Nat) => blk_cell (blk_alloc S1.out.1 o) i; have hf2 := fun (o : Obj) (i : Nat) => blk_frozen (blk_alloc S1.out.1 o) i)
    | ((with_reducible refine gate_dst (N := 71) rfl ?_); refine wpPartLd 71 rfl rfl 43 (.tmp 7) rfl _ rfl _ (CeA cc) [] (blk_far (p := ⟨g, 2, none⟩) (newBlk w3 _) hneC _) rfl Tryz.underlying43 rfl (by kernel_rfl) ?_)
    | ((with_reducible refine gate_store (t := 45) (p := 2) (v := .tmp 72) rfl ?_); refine wpRowSt rfl 45 (.tmp 2) (.tmp 72) rfl (w.heap.size) (TkA (tkC cc)) rfl rfl 45 _ (blk_far (p := ⟨g, 2, none⟩) (blk_alloc T1.out _) hne1 _) (by kernel_rfl) rfl rfl ?_))
  refine bodyPost_ret (results_ct rfl _ _ (w.heap.size) 45 (TkA (tkC cc)) (0, 0) _ rfl (setRow_heap _ _ _ _ _ _ (blk_far (p := ⟨g, 2, none⟩) (blk_alloc T1.out _) hne1 _)) Tryz.underlying45 rfl (by kernel_rfl)) rfl ?_
  refine ⟨_, _, rfl, fun h => ?_, ?_, rowBelow ((low LB.out (bel1 w3 _)).setCell (p := ⟨g, 2, none⟩) HI.out.2 _) HB.out.size _, keepRow ((KB.out.trans (KeepBut.of_below (bel1 w3 _) g none) (.inl rfl)).set_ 2 _) (Nat.le_refl _) _⟩
  · have h3 := RS.2 (RS.1.symm.trans h)
    exact ⟨h3.1.symm, by rw [h3.2]⟩
  · rw [RS.1]; exact ⟨rowOther _ (blk_put (blk_alloc S1.out.1 _) 2 _ rfl) hne2, HI.out.2⟩
end Go.Proofs.YtmppnobldhhpjaaGreatDoor.Pr
end
