/-
  Lemmas for the law LexScansLexPairs.
-/
import Derived.Test.YtmppnobldhhpjaaGreatDoorSLexScansLexPairs33
import Derived.Test.YtmppnobldhhpjaaGreatDoorSLexScansLexPairs20
import Derived.Test.YtmppnobldhhpjaaGreatDoorSLexScansLexPairs21
section
namespace Go.Proofs.YtmppnobldhhpjaaGreatDoor.Pr
set_option linter.unusedVariables false
set_option linter.unusedSimpArgs false
open Go.RowKit Go.Proofs.YtmppnobldhhpjaaGreatDoorW.PrintWords Go.Proofs.YtmppnobldhhpjaaGreatDoorW.PrintLast Go.Proofs.YtmppnobldhhpjaaGreatDoorW.PrintMore
theorem ext_drop (pre l : List UInt8) (n : Nat) (h : n ≤ l.length) : (bl (pre ++ l)).extract (pre.length + n) (pre.length + l.length) = bl (l.drop n) := by
  have e1 : pre ++ l = (pre ++ l.take n) ++ l.drop n := by rw [List.append_assoc, List.take_append_drop]
  have e2 : (pre ++ l.take n).length = pre.length + n := by rw [List.length_append, List.length_take]; omega
  have := ext_at (pre ++ l.take n) (l.drop n) (l.drop n).length (Nat.le_refl _)
  rw [← e1, e2, List.take_length, List.length_drop, show pre.length + n + (l.length - n) = pre.length + l.length by omega] at this
  exact this
theorem prefix40 (l : List UInt8) : Lib.hasPrefix l [40] = decide (l.head? = some 40) := by
  cases l with
  | nil => rfl
  | cons c r =>
    by_cases h : c = 40
    · subst h; simp [Lib.hasPrefix]
    · have h2 : ¬ (40 : UInt8) = c := fun e => h e.symm
      rw [show (c :: r).head? = some c from rfl, decide_eq_false (fun e => h (Option.some.inj e))]
      show ((40 : UInt8) == c && _) = false
      rw [beq_eq_false_iff_ne.2 h2]
      rfl
theorem namB_cons (c : UInt8) (r : List UInt8) (hall : (c :: r).all wdB = true) : namB (c :: r) = (decide ((c :: r).length ≤ 20) && ltB c && !((c :: r).contains 36)) := by
  unfold namB
  rw [all_wd _ hall]
  rw [show decide (1 ≤ (c :: r).length) = true from decide_eq_true (by simp)]
  rfl
set_option maxHeartbeats 1000000 in
theorem word_calls (pre : List UInt8) (c : UInt8) (r : List UInt8) (w0 w : World) (g : Nat) (hc : (ltB c || c == 36) = true) (hlen : (pre ++ c :: r).length ≤ 1024) (hI : IsSc w0 w g (bl (pre ++ c :: r)) (pre.length : Int) 0) (hB : Below w0.heap.size w0 w) :
    Calls Tryz.prog 30 #[ptV g] w (OneOut (bl (pre ++ c :: r)) (pre.length : Int) (wrdT7 (c :: r)) w0 g w) := by
  have hwd := u8_dec (fun c => (ltB c || c == 36) = true → wdB c = true) (by decide +kernel) c hc
  have hW : (c :: r).takeWhile wdB = c :: r.takeWhile wdB := List.takeWhile_cons_of_pos hwd
  have hle := takeWhile_len (p := wdB) (c :: r)
  have hdr := tw_drop (p := wdB) (c :: r)
  have hall : ((c :: r).takeWhile wdB).all wdB = true := List.all_eq_true.2 (fun x hx => tw_mem hx)
  have hl2 : pre.length + (c :: r).length ≤ 1024 := by rw [List.length_append] at hlen; exact hlen
  have hsz : (bl (pre ++ c :: r)).size = pre.length + (c :: r).length := by rw [bl_size, List.length_append]
  have HR := Aside0.mk (fun W (h : IsSc w0 W g (bl (pre ++ c :: r)) (pre.length : Int) 0) (b : Nat) hb => row1_wrd pre (c :: r) w0 W g b 0 hlen h hb)
  have HF : ∀ W, Calls Tryz.prog 42 #[.string ((bl (pre ++ c :: r)).extract (pre.length + ((c :: r).takeWhile wdB).length) (pre.length + (c :: r).length)), .string ⟨#[40]⟩] W fun e w' => e = .returned (.bool (decide (((c :: r).dropWhile wdB).head? = some 40))) ∧ Below W.heap.size W w' := by
    intro W
    have h := hasPrefix_calls (bl ((c :: r).dropWhile wdB)) ⟨#[40]⟩ W
    rw [bl_data, prefix40] at h
    rw [ext_drop pre (c :: r) _ hle, hdr]
    exact h
  have hres : wrdT7 (c :: r) = (if ((c :: r).dropWhile wdB).head? = some 40 then (if namB ((c :: r).takeWhile wdB) = true then (tkN (foldL ((c :: r).takeWhile wdB)), ((c :: r).takeWhile wdB).length, 0) else (tkZ, 0, 5))
    else if (truP ((c :: r).takeWhile wdB)).2 = true then (tkV 3 0 [] (truP ((c :: r).takeWhile wdB)).1 0, ((c :: r).takeWhile wdB).length, 0)
    else if (celL ((c :: r).takeWhile wdB)).2 = 0 then (tkC (celL ((c :: r).takeWhile wdB)).1, ((c :: r).takeWhile wdB).length, 0) else (tkZ, 0, (celL ((c :: r).takeWhile wdB)).2)) := rfl
  have hpos : 0 < ((c :: r).takeWhile wdB).length := by rw [hW]; simp
  have hx0 : ∀ hh : 0 < (bl ((c :: r).takeWhile wdB)).size, (bl ((c :: r).takeWhile wdB))[0]'hh = c := by
    intro hh
    rw [get0 _ 0 hpos]
    simp only [hW, List.getElem_cons_zero]
  have hCo := contains36_calls ((c :: r).takeWhile wdB)
  have hFo := value_Fold_eq ((c :: r).takeWhile wdB) (by omega)
  have hRd := value_Read_eq 1 (Nat.le_refl _) ((c :: r).takeWhile wdB) (by omega)
  have hPl := fun W => parse_cell ((c :: r).takeWhile wdB) W (by omega)
  have hnm := namB_cons c (r.takeWhile wdB) (by rw [← hW]; exact hall)
  rw [← hW] at hnm
  have hrw := read_word c (r.takeWhile wdB) hc
  rw [← hW] at hrw
  have h36 : ltB c = false → ((c :: r).takeWhile wdB).contains 36 = true := by
    intro h
    rw [h, Bool.false_or, beq_iff_eq] at hc
    rw [hW, hc]
    simp
  rw [hres]
  by_cases h40 : ((c :: r).dropWhile wdB).head? = some 40
  · rw [if_pos h40]
    rw [decide_eq_true h40] at HF
    cases hlt : ltB c with
    | false =>
      rw [h36 hlt] at hCo
      exact word_n1 _ _ _ _ _ c _ w0 w g hlt (by rw [hnm, hlt]; simp) _ (Aside0.mk hFo) (Aside0.mk hCo) hsz hl2 hle hpos (bl_size _) hx0 HR (Aside0.mk HF) hI hB
    | true =>
      cases h3 : ((c :: r).takeWhile wdB).contains 36 with
      | true =>
        rw [h3] at hCo
        exact word_n2 _ _ _ _ _ c _ w0 w g hlt (by rw [hnm, h3]; simp) _ (Aside0.mk hFo) (Aside0.mk hCo) hsz hl2 hle hpos (bl_size _) hx0 HR (Aside0.mk HF) hI hB
      | false =>
        rw [h3] at hCo
        by_cases h20 : 20 < ((c :: r).takeWhile wdB).length
        · exact word_n3 _ _ _ _ _ c _ w0 w g hlt h20 (by rw [hnm, decide_eq_false (by omega)]; simp) _ (Aside0.mk hFo) (Aside0.mk hCo) hsz hl2 hle hpos (bl_size _) hx0 HR (Aside0.mk HF) hI hB
        · exact word_n4 _ _ _ _ _ c _ w0 w g hlt h20 _ (by rw [hnm, h3, hlt, decide_eq_true (by omega)]; rfl) (Aside0.mk hFo) (Aside0.mk hCo) hsz hl2 hle hpos (bl_size _) hx0 HR (Aside0.mk HF) hI hB
  · rw [if_neg h40]
    rw [decide_eq_false h40] at HF
    rcases hrw with ⟨ht, hr⟩ | ⟨ht, K, n, s, b, k, e, hr, hK⟩
    · rw [if_pos ht]
      rw [hr] at hRd
      exact word_t1 _ _ _ _ _ c _ w0 w g _ _ _ _ (Aside0.mk hRd) rfl hsz hl2 hle hpos (bl_size _) hx0 HR (Aside0.mk HF) hI hB
    · rw [if_neg (by rw [ht]; simp)]
      rw [hr] at hRd
      have RS : ∀ res : Tk × Nat × Int, res = (if (celL ((c :: r).takeWhile wdB)).2 = 0 then (tkC (celL ((c :: r).takeWhile wdB)).1, ((c :: r).takeWhile wdB).length, 0) else (tkZ, 0, (celL ((c :: r).takeWhile wdB)).2)) → res.2.2 = (celL ((c :: r).takeWhile wdB)).2 ∧ ((celL ((c :: r).takeWhile wdB)).2 = 0 → res.1 = tkC (celL ((c :: r).takeWhile wdB)).1 ∧ res.2.1 = ((c :: r).takeWhile wdB).length) := by
        intro res hr
        subst hr
        by_cases he : (celL ((c :: r).takeWhile wdB)).2 = 0
        · rw [if_pos he]; exact ⟨he.symm, fun _ => ⟨rfl, rfl⟩⟩
        · rw [if_neg he]; exact ⟨rfl, fun h => absurd h he⟩
      by_cases he : e = 0
      · subst he
        exact word_t2 _ _ _ _ _ c _ w0 w g _ _ _ _ _ (Aside0.mk hRd) hK _ _ (Aside0.mk hPl) (RS _ rfl) hsz hl2 hle hpos (bl_size _) hx0 HR (Aside0.mk HF) hI hB
      · exact word_t3 _ _ _ _ _ c _ w0 w g _ _ _ _ _ _ (Aside0.mk hRd) he _ _ (Aside0.mk hPl) (RS _ rfl) hsz hl2 hle hpos (bl_size _) hx0 HR (Aside0.mk HF) hI hB
end Go.Proofs.YtmppnobldhhpjaaGreatDoor.Pr
end
section
namespace Go.Proofs.YtmppnobldhhpjaaGreatDoor.Pr
set_option linter.unusedVariables false
set_option linter.unusedSimpArgs false
open Go.RowKit Go.Proofs.YtmppnobldhhpjaaGreatDoorW.PrintWords Go.Proofs.YtmppnobldhhpjaaGreatDoorW.PrintLast Go.Proofs.YtmppnobldhhpjaaGreatDoorW.PrintMore
def lone1.T1 : Bool × List (List Nat × List Nat) := (true, [([], []), ([0], [0]), ([1], [1]), ([2], [2]), ([], []), ([4], [4]), ([5], [5]), ([6], [6]), ([3, 7], [3, 7]), ([8, 0, 1, 2, 3, 4, 5, 6, 7, 8], [8])])
def lone1.B1 : List Nat := [0, 1, 3, 7, 0, 16, 48, 112, 255, 511]
theorem lone1.tab1 : rtab .any (opsOf Tryz.f17 1) = lone1.T1 := by kernel_rfl
theorem lone1.bits1 : waitsOk lone1.T1.2 lone1.B1 = true := by kernel_rfl
set_option maxHeartbeats 8000000 in
set_option maxRecDepth 100000 in
theorem one_num (s : ByteArray) (at_ : Nat) (c : UInt8) (res : Tk × Nat × Int) (w0 w : World) (g : Nat) (hd : dg c = true) (hsz : at_ < s.size) (hc : ∀ hh : at_ < s.size, s[at_]'hh = c) (hL0 : Aside0 (LaidW w))
    (HC : Aside0 (∀ W, Aside0 (LaidW W) → IsSc w0 W g s (at_ : Int) 0 → Below w0.heap.size w0 W → Calls Tryz.prog 26 #[ptV g] W (OneOut s (at_ : Int) res w0 g W)))
    (hI : IsSc w0 w g s (at_ : Int) 0) (hB : Below w0.heap.size w0 w) :
    Calls Tryz.prog 17 #[ptV g] w (OneOut s (at_ : Int) res w0 g w) := by
  have hgl := blk_lt hI.1
  have hne1 : w.heap.size ≠ g := by omega
  have hne2 : g ≠ w.heap.size := by omega
  have HI := Aside0.mk hI
  have HB := Aside0.mk hB
  clear hI hB
  have z0 : (0 : Int) ≤ (at_ : Int) := by omega
  have z1 : ((at_ : Int)).toNat = at_ := by omega
  go_enter Tryz.func17, Tryz.ntmps17
  go_wp2
  have hS1 := (show (fun w' => IsSc w0 w' g s (at_ : Int) 0 ∧ Below (w.heap.size + 1) (w.alloc (.cells ZTk 45)) w') ((w.alloc (.cells ZTk 45)).drew) from ⟨⟨blk_drew (blk_alloc HI.out.1 _), HI.out.2⟩, (Below.refl _ _).drew⟩)
  refine start_ (n := 10) (S := fun w' => IsSc w0 w' g s (at_ : Int) 0 ∧ Below (w.heap.size + 1) (w.alloc (.cells ZTk 45)) w') (ds := []) #[false, false, false, false, false, false, false, false, false, false] (by kernel_rfl) rfl rfl hS1 (fun hHeld => ?_)
  refine with_tabW lone1.tab1 lone1.bits1 (fun HT_ HW_ => ?_)
  refine pureI 0 (some 5) HT_ rfl rfl (by kernel_rfl) (by rfl) (fun _ => by go_simp; with_reducible rfl) (by simp only [Act.put, List.setIfInBounds_toArray, List.set_cons_zero, List.set_cons_succ]; rfl) ?_
  refine pureI 1 (some 6) HT_ rfl rfl (by kernel_rfl) (by rfl) (fun _ => by go_simp; with_reducible rfl) (by simp only [Act.put, List.setIfInBounds_toArray, List.set_cons_zero, List.set_cons_succ]; rfl) ?_
  refine pureI 2 (some 7) HT_ rfl rfl (by kernel_rfl) (by rfl) (fun _ => by go_simp; with_reducible rfl) (by simp only [Act.put, List.setIfInBounds_toArray, List.set_cons_zero, List.set_cons_succ]; rfl) ?_
  refine pureI 4 (some 9) HT_ rfl rfl (by kernel_rfl) (by rfl) (fun _ => by go_simp; with_reducible rfl) (by simp only [Act.put, List.setIfInBounds_toArray, List.set_cons_zero, List.set_cons_succ]; rfl) ?_
  refine pureI 5 (some 10) HT_ rfl rfl (by kernel_rfl) (by rfl) (fun _ => by go_simp; with_reducible rfl) (by simp only [Act.put, List.setIfInBounds_toArray, List.set_cons_zero, List.set_cons_succ]; rfl) ?_
  refine pureI 6 (some 11) HT_ rfl rfl (by kernel_rfl) (by rfl) (fun _ => by go_simp; with_reducible rfl) (by simp only [Act.put, List.setIfInBounds_toArray, List.set_cons_zero, List.set_cons_succ]; rfl) ?_
  refine takeI 3 (some 8) HT_ HW_ rfl rfl (by kernel_rfl) (by rfl) (by rintro w' ⟨s1, s2⟩; have q0 := (blk_cell s1.1 0).trans (show _ = some (Value.string s) from rfl); have q1 := (blk_cell s1.1 1).trans (show _ = some (Value.int .i64 (at_ : Int)) from rfl); go_simp; with_reducible rfl) hHeld (by simp only [Act.put, List.setIfInBounds_toArray, List.set_cons_zero, List.set_cons_succ]; rfl) ?_
  refine takeI 7 (some 12) HT_ HW_ rfl rfl (by kernel_rfl) (by rfl) (by rintro w' ⟨s1, s2⟩; have q0 := (blk_cell s1.1 0).trans (show _ = some (Value.string s) from rfl); have q1 := (blk_cell s1.1 1).trans (show _ = some (Value.int .i64 (at_ : Int)) from rfl); go_simp; with_reducible rfl) hHeld (by simp only [Act.put, List.setIfInBounds_toArray, List.set_cons_zero, List.set_cons_succ]; rfl) ?_
  refine pureI 8 (some 13) HT_ rfl rfl (by kernel_rfl) (by rfl) (fun _ => by go_simp; with_reducible rfl) (by simp only [Act.put, List.setIfInBounds_toArray, List.set_cons_zero, List.set_cons_succ]; rfl) ?_
  refine pureI 9 (some 4) HT_ rfl rfl (by kernel_rfl) (by rfl) (fun _ => by go_simp; with_reducible rfl) (by simp only [Act.put, List.setIfInBounds_toArray, List.set_cons_zero, List.set_cons_succ]; rfl) ?_
  refine done_ (done_of HT_.out (by kernel_rfl)) ?_
  have H1 := Aside0.mk hHeld
  clear hHeld z0 z1 hc hsz
  go_wp2_with (first
    | (go_at_call 25; (with_reducible refine (lexDigit_calls c _).mono ?_); rintro e w2 ⟨rfl, hb⟩; replace H1 := Aside0.mk (show (IsSc w0 w2 g s (at_ : Int) 0 ∧ Below (w.heap.size + 1) (w.alloc (.cells ZTk 45)) w2) from ⟨H1.out.1.below hb, H1.out.2.trans (hb.mono (by have h := H1.out.2.size; rw [World.size_alloc] at h; exact h))⟩); clear hb)
    | (go_at_call 29; (with_reducible refine (lexLetter_calls c _).mono ?_); rintro e w3 ⟨rfl, hb⟩; replace H1 := Aside0.mk (show (IsSc w0 w3 g s (at_ : Int) 0 ∧ Below (w.heap.size + 1) (w.alloc (.cells ZTk 45)) w3) from ⟨H1.out.1.below hb, H1.out.2.trans (hb.mono (by have h := H1.out.2.size; rw [World.size_alloc] at h; exact h))⟩); clear hb)
    | (go_at_call 26; go_loud (have B1 := Aside0.mk ((bel1 w _).trans (H1.out.2.mono (by omega))); have T1 := Aside0.mk ((H1.out.2.block _ (by omega)).trans (newBlk w _)); refine (HC.out _ (LaidAt hL0 B1.out) H1.out.1 (low HB.out B1.out)).mono ?_; rintro e w9 ⟨t, n, rfl, h0, hs, hb0, hk⟩; have T9 := Aside0.mk ((hk.2 w.heap.size (blk_lt T1.out) hne1 (by simp)).trans T1.out); have H9 := Aside0.mk (And.intro h0 (And.intro hs (And.intro hb0 ((KeepBut.of_below B1.out g none).trans hk (.inl rfl))))); clear h0 hs hb0 hk))
    | ((with_reducible refine gate_store (t := 45) (p := 2) (v := .tmp 19) rfl ?_); refine wpRowSt rfl 45 (.tmp 2) (.tmp 19) rfl (w.heap.size) (TkA t) rfl rfl 45 _ T9.out (by kernel_rfl) rfl rfl ?_))
  refine bodyPost_ret (results_ct rfl _ _ (w.heap.size) 45 (TkA t) (0, 0) _ rfl (setRow_heap _ _ _ _ _ _ T9.out) Tryz.underlying45 rfl (by kernel_rfl)) rfl ?_
  exact ⟨_, _, rfl, H9.out.1, ⟨rowOther _ H9.out.2.1.1 hne2, HI.out.2⟩, rowBelow H9.out.2.2.1 HB.out.size _, keepRow H9.out.2.2.2 (Nat.le_refl _) _⟩
set_option maxHeartbeats 8000000 in
set_option maxRecDepth 100000 in
theorem one_txt (s : ByteArray) (at_ : Nat) (c : UInt8) (res : Tk × Nat × Int) (w0 w : World) (g : Nat) (hd : dg c = false) (b34 : ((c.toNat : Int) == 34) = true) (hsz : at_ < s.size) (hc : ∀ hh : at_ < s.size, s[at_]'hh = c) (hL0 : Aside0 (LaidW w))
    (HC : Aside0 (∀ W, Aside0 (LaidW W) → IsSc w0 W g s (at_ : Int) 0 → Below w0.heap.size w0 W → Calls Tryz.prog 27 #[ptV g] W (OneOut s (at_ : Int) res w0 g W)))
    (hI : IsSc w0 w g s (at_ : Int) 0) (hB : Below w0.heap.size w0 w) :
    Calls Tryz.prog 17 #[ptV g] w (OneOut s (at_ : Int) res w0 g w) := by
  have hgl := blk_lt hI.1
  have hne1 : w.heap.size ≠ g := by omega
  have hne2 : g ≠ w.heap.size := by omega
  have HI := Aside0.mk hI
  have HB := Aside0.mk hB
  clear hI hB
  have z0 : (0 : Int) ≤ (at_ : Int) := by omega
  have z1 : ((at_ : Int)).toNat = at_ := by omega
  go_enter Tryz.func17, Tryz.ntmps17
  go_wp2
  have hS1 := (show (fun w' => IsSc w0 w' g s (at_ : Int) 0 ∧ Below (w.heap.size + 1) (w.alloc (.cells ZTk 45)) w') ((w.alloc (.cells ZTk 45)).drew) from ⟨⟨blk_drew (blk_alloc HI.out.1 _), HI.out.2⟩, (Below.refl _ _).drew⟩)
  refine start_ (n := 10) (S := fun w' => IsSc w0 w' g s (at_ : Int) 0 ∧ Below (w.heap.size + 1) (w.alloc (.cells ZTk 45)) w') (ds := []) #[false, false, false, false, false, false, false, false, false, false] (by kernel_rfl) rfl rfl hS1 (fun hHeld => ?_)
  refine with_tabW lone1.tab1 lone1.bits1 (fun HT_ HW_ => ?_)
  refine pureI 0 (some 5) HT_ rfl rfl (by kernel_rfl) (by rfl) (fun _ => by go_simp; with_reducible rfl) (by simp only [Act.put, List.setIfInBounds_toArray, List.set_cons_zero, List.set_cons_succ]; rfl) ?_
  refine pureI 1 (some 6) HT_ rfl rfl (by kernel_rfl) (by rfl) (fun _ => by go_simp; with_reducible rfl) (by simp only [Act.put, List.setIfInBounds_toArray, List.set_cons_zero, List.set_cons_succ]; rfl) ?_
  refine pureI 2 (some 7) HT_ rfl rfl (by kernel_rfl) (by rfl) (fun _ => by go_simp; with_reducible rfl) (by simp only [Act.put, List.setIfInBounds_toArray, List.set_cons_zero, List.set_cons_succ]; rfl) ?_
  refine pureI 4 (some 9) HT_ rfl rfl (by kernel_rfl) (by rfl) (fun _ => by go_simp; with_reducible rfl) (by simp only [Act.put, List.setIfInBounds_toArray, List.set_cons_zero, List.set_cons_succ]; rfl) ?_
  refine pureI 5 (some 10) HT_ rfl rfl (by kernel_rfl) (by rfl) (fun _ => by go_simp; with_reducible rfl) (by simp only [Act.put, List.setIfInBounds_toArray, List.set_cons_zero, List.set_cons_succ]; rfl) ?_
  refine pureI 6 (some 11) HT_ rfl rfl (by kernel_rfl) (by rfl) (fun _ => by go_simp; with_reducible rfl) (by simp only [Act.put, List.setIfInBounds_toArray, List.set_cons_zero, List.set_cons_succ]; rfl) ?_
  refine takeI 3 (some 8) HT_ HW_ rfl rfl (by kernel_rfl) (by rfl) (by rintro w' ⟨s1, s2⟩; have q0 := (blk_cell s1.1 0).trans (show _ = some (Value.string s) from rfl); have q1 := (blk_cell s1.1 1).trans (show _ = some (Value.int .i64 (at_ : Int)) from rfl); go_simp; with_reducible rfl) hHeld (by simp only [Act.put, List.setIfInBounds_toArray, List.set_cons_zero, List.set_cons_succ]; rfl) ?_
  refine takeI 7 (some 12) HT_ HW_ rfl rfl (by kernel_rfl) (by rfl) (by rintro w' ⟨s1, s2⟩; have q0 := (blk_cell s1.1 0).trans (show _ = some (Value.string s) from rfl); have q1 := (blk_cell s1.1 1).trans (show _ = some (Value.int .i64 (at_ : Int)) from rfl); go_simp; with_reducible rfl) hHeld (by simp only [Act.put, List.setIfInBounds_toArray, List.set_cons_zero, List.set_cons_succ]; rfl) ?_
  refine pureI 8 (some 13) HT_ rfl rfl (by kernel_rfl) (by rfl) (fun _ => by go_simp; with_reducible rfl) (by simp only [Act.put, List.setIfInBounds_toArray, List.set_cons_zero, List.set_cons_succ]; rfl) ?_
  refine pureI 9 (some 4) HT_ rfl rfl (by kernel_rfl) (by rfl) (fun _ => by go_simp; with_reducible rfl) (by simp only [Act.put, List.setIfInBounds_toArray, List.set_cons_zero, List.set_cons_succ]; rfl) ?_
  refine done_ (done_of HT_.out (by kernel_rfl)) ?_
  have H1 := Aside0.mk hHeld
  clear hHeld z0 z1 hc hsz
  go_wp2_with (first
    | (go_at_call 25; (with_reducible refine (lexDigit_calls c _).mono ?_); rintro e w2 ⟨rfl, hb⟩; replace H1 := Aside0.mk (show (IsSc w0 w2 g s (at_ : Int) 0 ∧ Below (w.heap.size + 1) (w.alloc (.cells ZTk 45)) w2) from ⟨H1.out.1.below hb, H1.out.2.trans (hb.mono (by have h := H1.out.2.size; rw [World.size_alloc] at h; exact h))⟩); clear hb)
    | (go_at_call 29; (with_reducible refine (lexLetter_calls c _).mono ?_); rintro e w3 ⟨rfl, hb⟩; replace H1 := Aside0.mk (show (IsSc w0 w3 g s (at_ : Int) 0 ∧ Below (w.heap.size + 1) (w.alloc (.cells ZTk 45)) w3) from ⟨H1.out.1.below hb, H1.out.2.trans (hb.mono (by have h := H1.out.2.size; rw [World.size_alloc] at h; exact h))⟩); clear hb)
    | (go_at_call 27; go_loud (have B1 := Aside0.mk ((bel1 w _).trans (H1.out.2.mono (by omega))); have T1 := Aside0.mk ((H1.out.2.block _ (by omega)).trans (newBlk w _)); refine (HC.out _ (LaidAt hL0 B1.out) H1.out.1 (low HB.out B1.out)).mono ?_; rintro e w9 ⟨t, n, rfl, h0, hs, hb0, hk⟩; have T9 := Aside0.mk ((hk.2 w.heap.size (blk_lt T1.out) hne1 (by simp)).trans T1.out); have H9 := Aside0.mk (And.intro h0 (And.intro hs (And.intro hb0 ((KeepBut.of_below B1.out g none).trans hk (.inl rfl))))); clear h0 hs hb0 hk))
    | ((with_reducible refine gate_store (t := 45) (p := 2) (v := .tmp 26) rfl ?_); refine wpRowSt rfl 45 (.tmp 2) (.tmp 26) rfl (w.heap.size) (TkA t) rfl rfl 45 _ T9.out (by kernel_rfl) rfl rfl ?_))
  refine bodyPost_ret (results_ct rfl _ _ (w.heap.size) 45 (TkA t) (0, 0) _ rfl (setRow_heap _ _ _ _ _ _ T9.out) Tryz.underlying45 rfl (by kernel_rfl)) rfl ?_
  exact ⟨_, _, rfl, H9.out.1, ⟨rowOther _ H9.out.2.1.1 hne2, HI.out.2⟩, rowBelow H9.out.2.2.1 HB.out.size _, keepRow H9.out.2.2.2 (Nat.le_refl _) _⟩
set_option maxHeartbeats 8000000 in
set_option maxRecDepth 100000 in
theorem one_flt (s : ByteArray) (at_ : Nat) (c : UInt8) (res : Tk × Nat × Int) (w0 w : World) (g : Nat) (hd : dg c = false) (b34 : ((c.toNat : Int) == 34) = false) (b35 : ((c.toNat : Int) == 35) = true) (hsz : at_ < s.size) (hc : ∀ hh : at_ < s.size, s[at_]'hh = c) (hL0 : Aside0 (LaidW w))
    (HC : Aside0 (∀ W, Aside0 (LaidW W) → IsSc w0 W g s (at_ : Int) 0 → Below w0.heap.size w0 W → Calls Tryz.prog 28 #[ptV g] W (OneOut s (at_ : Int) res w0 g W)))
    (hI : IsSc w0 w g s (at_ : Int) 0) (hB : Below w0.heap.size w0 w) :
    Calls Tryz.prog 17 #[ptV g] w (OneOut s (at_ : Int) res w0 g w) := by
  have hgl := blk_lt hI.1
  have hne1 : w.heap.size ≠ g := by omega
  have hne2 : g ≠ w.heap.size := by omega
  have HI := Aside0.mk hI
  have HB := Aside0.mk hB
  clear hI hB
  have z0 : (0 : Int) ≤ (at_ : Int) := by omega
  have z1 : ((at_ : Int)).toNat = at_ := by omega
  go_enter Tryz.func17, Tryz.ntmps17
  go_wp2
  have hS1 := (show (fun w' => IsSc w0 w' g s (at_ : Int) 0 ∧ Below (w.heap.size + 1) (w.alloc (.cells ZTk 45)) w') ((w.alloc (.cells ZTk 45)).drew) from ⟨⟨blk_drew (blk_alloc HI.out.1 _), HI.out.2⟩, (Below.refl _ _).drew⟩)
  refine start_ (n := 10) (S := fun w' => IsSc w0 w' g s (at_ : Int) 0 ∧ Below (w.heap.size + 1) (w.alloc (.cells ZTk 45)) w') (ds := []) #[false, false, false, false, false, false, false, false, false, false] (by kernel_rfl) rfl rfl hS1 (fun hHeld => ?_)
  refine with_tabW lone1.tab1 lone1.bits1 (fun HT_ HW_ => ?_)
  refine pureI 0 (some 5) HT_ rfl rfl (by kernel_rfl) (by rfl) (fun _ => by go_simp; with_reducible rfl) (by simp only [Act.put, List.setIfInBounds_toArray, List.set_cons_zero, List.set_cons_succ]; rfl) ?_
  refine pureI 1 (some 6) HT_ rfl rfl (by kernel_rfl) (by rfl) (fun _ => by go_simp; with_reducible rfl) (by simp only [Act.put, List.setIfInBounds_toArray, List.set_cons_zero, List.set_cons_succ]; rfl) ?_
  refine pureI 2 (some 7) HT_ rfl rfl (by kernel_rfl) (by rfl) (fun _ => by go_simp; with_reducible rfl) (by simp only [Act.put, List.setIfInBounds_toArray, List.set_cons_zero, List.set_cons_succ]; rfl) ?_
  refine pureI 4 (some 9) HT_ rfl rfl (by kernel_rfl) (by rfl) (fun _ => by go_simp; with_reducible rfl) (by simp only [Act.put, List.setIfInBounds_toArray, List.set_cons_zero, List.set_cons_succ]; rfl) ?_
  refine pureI 5 (some 10) HT_ rfl rfl (by kernel_rfl) (by rfl) (fun _ => by go_simp; with_reducible rfl) (by simp only [Act.put, List.setIfInBounds_toArray, List.set_cons_zero, List.set_cons_succ]; rfl) ?_
  refine pureI 6 (some 11) HT_ rfl rfl (by kernel_rfl) (by rfl) (fun _ => by go_simp; with_reducible rfl) (by simp only [Act.put, List.setIfInBounds_toArray, List.set_cons_zero, List.set_cons_succ]; rfl) ?_
  refine takeI 3 (some 8) HT_ HW_ rfl rfl (by kernel_rfl) (by rfl) (by rintro w' ⟨s1, s2⟩; have q0 := (blk_cell s1.1 0).trans (show _ = some (Value.string s) from rfl); have q1 := (blk_cell s1.1 1).trans (show _ = some (Value.int .i64 (at_ : Int)) from rfl); go_simp; with_reducible rfl) hHeld (by simp only [Act.put, List.setIfInBounds_toArray, List.set_cons_zero, List.set_cons_succ]; rfl) ?_
  refine takeI 7 (some 12) HT_ HW_ rfl rfl (by kernel_rfl) (by rfl) (by rintro w' ⟨s1, s2⟩; have q0 := (blk_cell s1.1 0).trans (show _ = some (Value.string s) from rfl); have q1 := (blk_cell s1.1 1).trans (show _ = some (Value.int .i64 (at_ : Int)) from rfl); go_simp; with_reducible rfl) hHeld (by simp only [Act.put, List.setIfInBounds_toArray, List.set_cons_zero, List.set_cons_succ]; rfl) ?_
  refine pureI 8 (some 13) HT_ rfl rfl (by kernel_rfl) (by rfl) (fun _ => by go_simp; with_reducible rfl) (by simp only [Act.put, List.setIfInBounds_toArray, List.set_cons_zero, List.set_cons_succ]; rfl) ?_
  refine pureI 9 (some 4) HT_ rfl rfl (by kernel_rfl) (by rfl) (fun _ => by go_simp; with_reducible rfl) (by simp only [Act.put, List.setIfInBounds_toArray, List.set_cons_zero, List.set_cons_succ]; rfl) ?_
  refine done_ (done_of HT_.out (by kernel_rfl)) ?_
  have H1 := Aside0.mk hHeld
  clear hHeld z0 z1 hc hsz
  go_wp2_with (first
    | (go_at_call 25; (with_reducible refine (lexDigit_calls c _).mono ?_); rintro e w2 ⟨rfl, hb⟩; replace H1 := Aside0.mk (show (IsSc w0 w2 g s (at_ : Int) 0 ∧ Below (w.heap.size + 1) (w.alloc (.cells ZTk 45)) w2) from ⟨H1.out.1.below hb, H1.out.2.trans (hb.mono (by have h := H1.out.2.size; rw [World.size_alloc] at h; exact h))⟩); clear hb)
    | (go_at_call 29; (with_reducible refine (lexLetter_calls c _).mono ?_); rintro e w3 ⟨rfl, hb⟩; replace H1 := Aside0.mk (show (IsSc w0 w3 g s (at_ : Int) 0 ∧ Below (w.heap.size + 1) (w.alloc (.cells ZTk 45)) w3) from ⟨H1.out.1.below hb, H1.out.2.trans (hb.mono (by have h := H1.out.2.size; rw [World.size_alloc] at h; exact h))⟩); clear hb)
    | (go_at_call 28; go_loud (have B1 := Aside0.mk ((bel1 w _).trans (H1.out.2.mono (by omega))); have T1 := Aside0.mk ((H1.out.2.block _ (by omega)).trans (newBlk w _)); refine (HC.out _ (LaidAt hL0 B1.out) H1.out.1 (low HB.out B1.out)).mono ?_; rintro e w9 ⟨t, n, rfl, h0, hs, hb0, hk⟩; have T9 := Aside0.mk ((hk.2 w.heap.size (blk_lt T1.out) hne1 (by simp)).trans T1.out); have H9 := Aside0.mk (And.intro h0 (And.intro hs (And.intro hb0 ((KeepBut.of_below B1.out g none).trans hk (.inl rfl))))); clear h0 hs hb0 hk))
    | ((with_reducible refine gate_store (t := 45) (p := 2) (v := .tmp 33) rfl ?_); refine wpRowSt rfl 45 (.tmp 2) (.tmp 33) rfl (w.heap.size) (TkA t) rfl rfl 45 _ T9.out (by kernel_rfl) rfl rfl ?_))
  refine bodyPost_ret (results_ct rfl _ _ (w.heap.size) 45 (TkA t) (0, 0) _ rfl (setRow_heap _ _ _ _ _ _ T9.out) Tryz.underlying45 rfl (by kernel_rfl)) rfl ?_
  exact ⟨_, _, rfl, H9.out.1, ⟨rowOther _ H9.out.2.1.1 hne2, HI.out.2⟩, rowBelow H9.out.2.2.1 HB.out.size _, keepRow H9.out.2.2.2 (Nat.le_refl _) _⟩
set_option maxHeartbeats 8000000 in
set_option maxRecDepth 100000 in
theorem one_wrd (s : ByteArray) (at_ : Nat) (c : UInt8) (res : Tk × Nat × Int) (w0 w : World) (g : Nat) (hd : dg c = false) (b34 : ((c.toNat : Int) == 34) = false) (b35 : ((c.toNat : Int) == 35) = false) (hl : ltB c = true) (hsz : at_ < s.size) (hc : ∀ hh : at_ < s.size, s[at_]'hh = c) (hL0 : Aside0 (LaidW w))
    (HC : Aside0 (∀ W, Aside0 (LaidW W) → IsSc w0 W g s (at_ : Int) 0 → Below w0.heap.size w0 W → Calls Tryz.prog 30 #[ptV g] W (OneOut s (at_ : Int) res w0 g W)))
    (hI : IsSc w0 w g s (at_ : Int) 0) (hB : Below w0.heap.size w0 w) :
    Calls Tryz.prog 17 #[ptV g] w (OneOut s (at_ : Int) res w0 g w) := by
  have hgl := blk_lt hI.1
  have hne1 : w.heap.size ≠ g := by omega
  have hne2 : g ≠ w.heap.size := by omega
  have HI := Aside0.mk hI
  have HB := Aside0.mk hB
  clear hI hB
  have z0 : (0 : Int) ≤ (at_ : Int) := by omega
  have z1 : ((at_ : Int)).toNat = at_ := by omega
  go_enter Tryz.func17, Tryz.ntmps17
  go_wp2
  have hS1 := (show (fun w' => IsSc w0 w' g s (at_ : Int) 0 ∧ Below (w.heap.size + 1) (w.alloc (.cells ZTk 45)) w') ((w.alloc (.cells ZTk 45)).drew) from ⟨⟨blk_drew (blk_alloc HI.out.1 _), HI.out.2⟩, (Below.refl _ _).drew⟩)
  refine start_ (n := 10) (S := fun w' => IsSc w0 w' g s (at_ : Int) 0 ∧ Below (w.heap.size + 1) (w.alloc (.cells ZTk 45)) w') (ds := []) #[false, false, false, false, false, false, false, false, false, false] (by kernel_rfl) rfl rfl hS1 (fun hHeld => ?_)
  refine with_tabW lone1.tab1 lone1.bits1 (fun HT_ HW_ => ?_)
  refine pureI 0 (some 5) HT_ rfl rfl (by kernel_rfl) (by rfl) (fun _ => by go_simp; with_reducible rfl) (by simp only [Act.put, List.setIfInBounds_toArray, List.set_cons_zero, List.set_cons_succ]; rfl) ?_
  refine pureI 1 (some 6) HT_ rfl rfl (by kernel_rfl) (by rfl) (fun _ => by go_simp; with_reducible rfl) (by simp only [Act.put, List.setIfInBounds_toArray, List.set_cons_zero, List.set_cons_succ]; rfl) ?_
  refine pureI 2 (some 7) HT_ rfl rfl (by kernel_rfl) (by rfl) (fun _ => by go_simp; with_reducible rfl) (by simp only [Act.put, List.setIfInBounds_toArray, List.set_cons_zero, List.set_cons_succ]; rfl) ?_
  refine pureI 4 (some 9) HT_ rfl rfl (by kernel_rfl) (by rfl) (fun _ => by go_simp; with_reducible rfl) (by simp only [Act.put, List.setIfInBounds_toArray, List.set_cons_zero, List.set_cons_succ]; rfl) ?_
  refine pureI 5 (some 10) HT_ rfl rfl (by kernel_rfl) (by rfl) (fun _ => by go_simp; with_reducible rfl) (by simp only [Act.put, List.setIfInBounds_toArray, List.set_cons_zero, List.set_cons_succ]; rfl) ?_
  refine pureI 6 (some 11) HT_ rfl rfl (by kernel_rfl) (by rfl) (fun _ => by go_simp; with_reducible rfl) (by simp only [Act.put, List.setIfInBounds_toArray, List.set_cons_zero, List.set_cons_succ]; rfl) ?_
  refine takeI 3 (some 8) HT_ HW_ rfl rfl (by kernel_rfl) (by rfl) (by rintro w' ⟨s1, s2⟩; have q0 := (blk_cell s1.1 0).trans (show _ = some (Value.string s) from rfl); have q1 := (blk_cell s1.1 1).trans (show _ = some (Value.int .i64 (at_ : Int)) from rfl); go_simp; with_reducible rfl) hHeld (by simp only [Act.put, List.setIfInBounds_toArray, List.set_cons_zero, List.set_cons_succ]; rfl) ?_
  refine takeI 7 (some 12) HT_ HW_ rfl rfl (by kernel_rfl) (by rfl) (by rintro w' ⟨s1, s2⟩; have q0 := (blk_cell s1.1 0).trans (show _ = some (Value.string s) from rfl); have q1 := (blk_cell s1.1 1).trans (show _ = some (Value.int .i64 (at_ : Int)) from rfl); go_simp; with_reducible rfl) hHeld (by simp only [Act.put, List.setIfInBounds_toArray, List.set_cons_zero, List.set_cons_succ]; rfl) ?_
  refine pureI 8 (some 13) HT_ rfl rfl (by kernel_rfl) (by rfl) (fun _ => by go_simp; with_reducible rfl) (by simp only [Act.put, List.setIfInBounds_toArray, List.set_cons_zero, List.set_cons_succ]; rfl) ?_
  refine pureI 9 (some 4) HT_ rfl rfl (by kernel_rfl) (by rfl) (fun _ => by go_simp; with_reducible rfl) (by simp only [Act.put, List.setIfInBounds_toArray, List.set_cons_zero, List.set_cons_succ]; rfl) ?_
  refine done_ (done_of HT_.out (by kernel_rfl)) ?_
  have H1 := Aside0.mk hHeld
  clear hHeld z0 z1 hc hsz
  go_wp2_with (first
    | (go_at_call 25; (with_reducible refine (lexDigit_calls c _).mono ?_); rintro e w2 ⟨rfl, hb⟩; replace H1 := Aside0.mk (show (IsSc w0 w2 g s (at_ : Int) 0 ∧ Below (w.heap.size + 1) (w.alloc (.cells ZTk 45)) w2) from ⟨H1.out.1.below hb, H1.out.2.trans (hb.mono (by have h := H1.out.2.size; rw [World.size_alloc] at h; exact h))⟩); clear hb)
    | (go_at_call 29; (with_reducible refine (lexLetter_calls c _).mono ?_); rintro e w3 ⟨rfl, hb⟩; replace H1 := Aside0.mk (show (IsSc w0 w3 g s (at_ : Int) 0 ∧ Below (w.heap.size + 1) (w.alloc (.cells ZTk 45)) w3) from ⟨H1.out.1.below hb, H1.out.2.trans (hb.mono (by have h := H1.out.2.size; rw [World.size_alloc] at h; exact h))⟩); clear hb)
    | (go_at_call 30; go_loud (have B1 := Aside0.mk ((bel1 w _).trans (H1.out.2.mono (by omega))); have T1 := Aside0.mk ((H1.out.2.block _ (by omega)).trans (newBlk w _)); refine (HC.out _ (LaidAt hL0 B1.out) H1.out.1 (low HB.out B1.out)).mono ?_; rintro e w9 ⟨t, n, rfl, h0, hs, hb0, hk⟩; have T9 := Aside0.mk ((hk.2 w.heap.size (blk_lt T1.out) hne1 (by simp)).trans T1.out); have H9 := Aside0.mk (And.intro h0 (And.intro hs (And.intro hb0 ((KeepBut.of_below B1.out g none).trans hk (.inl rfl))))); clear h0 hs hb0 hk))
    | ((with_reducible refine gate_store (t := 45) (p := 2) (v := .tmp 44) rfl ?_); refine wpRowSt rfl 45 (.tmp 2) (.tmp 44) rfl (w.heap.size) (TkA t) rfl rfl 45 _ T9.out (by kernel_rfl) rfl rfl ?_))
  refine bodyPost_ret (results_ct rfl _ _ (w.heap.size) 45 (TkA t) (0, 0) _ rfl (setRow_heap _ _ _ _ _ _ T9.out) Tryz.underlying45 rfl (by kernel_rfl)) rfl ?_
  exact ⟨_, _, rfl, H9.out.1, ⟨rowOther _ H9.out.2.1.1 hne2, HI.out.2⟩, rowBelow H9.out.2.2.1 HB.out.size _, keepRow H9.out.2.2.2 (Nat.le_refl _) _⟩
set_option maxHeartbeats 8000000 in
set_option maxRecDepth 100000 in
theorem one_wrd2 (s : ByteArray) (at_ : Nat) (c : UInt8) (res : Tk × Nat × Int) (w0 w : World) (g : Nat) (hd : dg c = false) (b34 : ((c.toNat : Int) == 34) = false) (b35 : ((c.toNat : Int) == 35) = false) (hl : ltB c = false) (b36 : ((c.toNat : Int) == 36) = true) (hsz : at_ < s.size) (hc : ∀ hh : at_ < s.size, s[at_]'hh = c) (hL0 : Aside0 (LaidW w))
    (HC : Aside0 (∀ W, Aside0 (LaidW W) → IsSc w0 W g s (at_ : Int) 0 → Below w0.heap.size w0 W → Calls Tryz.prog 30 #[ptV g] W (OneOut s (at_ : Int) res w0 g W)))
    (hI : IsSc w0 w g s (at_ : Int) 0) (hB : Below w0.heap.size w0 w) :
    Calls Tryz.prog 17 #[ptV g] w (OneOut s (at_ : Int) res w0 g w) := by
  have hgl := blk_lt hI.1
  have hne1 : w.heap.size ≠ g := by omega
  have hne2 : g ≠ w.heap.size := by omega
  have HI := Aside0.mk hI
  have HB := Aside0.mk hB
  clear hI hB
  have z0 : (0 : Int) ≤ (at_ : Int) := by omega
  have z1 : ((at_ : Int)).toNat = at_ := by omega
  go_enter Tryz.func17, Tryz.ntmps17
  go_wp2
  have hS1 := (show (fun w' => IsSc w0 w' g s (at_ : Int) 0 ∧ Below (w.heap.size + 1) (w.alloc (.cells ZTk 45)) w') ((w.alloc (.cells ZTk 45)).drew) from ⟨⟨blk_drew (blk_alloc HI.out.1 _), HI.out.2⟩, (Below.refl _ _).drew⟩)
  refine start_ (n := 10) (S := fun w' => IsSc w0 w' g s (at_ : Int) 0 ∧ Below (w.heap.size + 1) (w.alloc (.cells ZTk 45)) w') (ds := []) #[false, false, false, false, false, false, false, false, false, false] (by kernel_rfl) rfl rfl hS1 (fun hHeld => ?_)
  refine with_tabW lone1.tab1 lone1.bits1 (fun HT_ HW_ => ?_)
  refine pureI 0 (some 5) HT_ rfl rfl (by kernel_rfl) (by rfl) (fun _ => by go_simp; with_reducible rfl) (by simp only [Act.put, List.setIfInBounds_toArray, List.set_cons_zero, List.set_cons_succ]; rfl) ?_
  refine pureI 1 (some 6) HT_ rfl rfl (by kernel_rfl) (by rfl) (fun _ => by go_simp; with_reducible rfl) (by simp only [Act.put, List.setIfInBounds_toArray, List.set_cons_zero, List.set_cons_succ]; rfl) ?_
  refine pureI 2 (some 7) HT_ rfl rfl (by kernel_rfl) (by rfl) (fun _ => by go_simp; with_reducible rfl) (by simp only [Act.put, List.setIfInBounds_toArray, List.set_cons_zero, List.set_cons_succ]; rfl) ?_
  refine pureI 4 (some 9) HT_ rfl rfl (by kernel_rfl) (by rfl) (fun _ => by go_simp; with_reducible rfl) (by simp only [Act.put, List.setIfInBounds_toArray, List.set_cons_zero, List.set_cons_succ]; rfl) ?_
  refine pureI 5 (some 10) HT_ rfl rfl (by kernel_rfl) (by rfl) (fun _ => by go_simp; with_reducible rfl) (by simp only [Act.put, List.setIfInBounds_toArray, List.set_cons_zero, List.set_cons_succ]; rfl) ?_
  refine pureI 6 (some 11) HT_ rfl rfl (by kernel_rfl) (by rfl) (fun _ => by go_simp; with_reducible rfl) (by simp only [Act.put, List.setIfInBounds_toArray, List.set_cons_zero, List.set_cons_succ]; rfl) ?_
  refine takeI 3 (some 8) HT_ HW_ rfl rfl (by kernel_rfl) (by rfl) (by rintro w' ⟨s1, s2⟩; have q0 := (blk_cell s1.1 0).trans (show _ = some (Value.string s) from rfl); have q1 := (blk_cell s1.1 1).trans (show _ = some (Value.int .i64 (at_ : Int)) from rfl); go_simp; with_reducible rfl) hHeld (by simp only [Act.put, List.setIfInBounds_toArray, List.set_cons_zero, List.set_cons_succ]; rfl) ?_
  refine takeI 7 (some 12) HT_ HW_ rfl rfl (by kernel_rfl) (by rfl) (by rintro w' ⟨s1, s2⟩; have q0 := (blk_cell s1.1 0).trans (show _ = some (Value.string s) from rfl); have q1 := (blk_cell s1.1 1).trans (show _ = some (Value.int .i64 (at_ : Int)) from rfl); go_simp; with_reducible rfl) hHeld (by simp only [Act.put, List.setIfInBounds_toArray, List.set_cons_zero, List.set_cons_succ]; rfl) ?_
  refine pureI 8 (some 13) HT_ rfl rfl (by kernel_rfl) (by rfl) (fun _ => by go_simp; with_reducible rfl) (by simp only [Act.put, List.setIfInBounds_toArray, List.set_cons_zero, List.set_cons_succ]; rfl) ?_
  refine pureI 9 (some 4) HT_ rfl rfl (by kernel_rfl) (by rfl) (fun _ => by go_simp; with_reducible rfl) (by simp only [Act.put, List.setIfInBounds_toArray, List.set_cons_zero, List.set_cons_succ]; rfl) ?_
  refine done_ (done_of HT_.out (by kernel_rfl)) ?_
  have H1 := Aside0.mk hHeld
  clear hHeld z0 z1 hc hsz
  go_wp2_with (first
    | (go_at_call 25; (with_reducible refine (lexDigit_calls c _).mono ?_); rintro e w2 ⟨rfl, hb⟩; replace H1 := Aside0.mk (show (IsSc w0 w2 g s (at_ : Int) 0 ∧ Below (w.heap.size + 1) (w.alloc (.cells ZTk 45)) w2) from ⟨H1.out.1.below hb, H1.out.2.trans (hb.mono (by have h := H1.out.2.size; rw [World.size_alloc] at h; exact h))⟩); clear hb)
    | (go_at_call 29; (with_reducible refine (lexLetter_calls c _).mono ?_); rintro e w3 ⟨rfl, hb⟩; replace H1 := Aside0.mk (show (IsSc w0 w3 g s (at_ : Int) 0 ∧ Below (w.heap.size + 1) (w.alloc (.cells ZTk 45)) w3) from ⟨H1.out.1.below hb, H1.out.2.trans (hb.mono (by have h := H1.out.2.size; rw [World.size_alloc] at h; exact h))⟩); clear hb)
    | (go_at_call 30; go_loud (have B1 := Aside0.mk ((bel1 w _).trans (H1.out.2.mono (by omega))); have T1 := Aside0.mk ((H1.out.2.block _ (by omega)).trans (newBlk w _)); refine (HC.out _ (LaidAt hL0 B1.out) H1.out.1 (low HB.out B1.out)).mono ?_; rintro e w9 ⟨t, n, rfl, h0, hs, hb0, hk⟩; have T9 := Aside0.mk ((hk.2 w.heap.size (blk_lt T1.out) hne1 (by simp)).trans T1.out); have H9 := Aside0.mk (And.intro h0 (And.intro hs (And.intro hb0 ((KeepBut.of_below B1.out g none).trans hk (.inl rfl))))); clear h0 hs hb0 hk))
    | ((with_reducible refine gate_store (t := 45) (p := 2) (v := .tmp 44) rfl ?_); refine wpRowSt rfl 45 (.tmp 2) (.tmp 44) rfl (w.heap.size) (TkA t) rfl rfl 45 _ T9.out (by kernel_rfl) rfl rfl ?_))
  refine bodyPost_ret (results_ct rfl _ _ (w.heap.size) 45 (TkA t) (0, 0) _ rfl (setRow_heap _ _ _ _ _ _ T9.out) Tryz.underlying45 rfl (by kernel_rfl)) rfl ?_
  exact ⟨_, _, rfl, H9.out.1, ⟨rowOther _ H9.out.2.1.1 hne2, HI.out.2⟩, rowBelow H9.out.2.2.1 HB.out.size _, keepRow H9.out.2.2.2 (Nat.le_refl _) _⟩
set_option maxHeartbeats 8000000 in
set_option maxRecDepth 100000 in
theorem one_sgn (s : ByteArray) (at_ : Nat) (c : UInt8) (res : Tk × Nat × Int) (w0 w : World) (g : Nat) (hd : dg c = false) (b34 : ((c.toNat : Int) == 34) = false) (b35 : ((c.toNat : Int) == 35) = false) (hl : ltB c = false) (b36 : ((c.toNat : Int) == 36) = false) (hsz : at_ < s.size) (hc : ∀ hh : at_ < s.size, s[at_]'hh = c) (hL0 : Aside0 (LaidW w))
    (HC : Aside0 (∀ W, Aside0 (LaidW W) → IsSc w0 W g s (at_ : Int) 0 → Below w0.heap.size w0 W → Calls Tryz.prog 31 #[ptV g] W (OneOut s (at_ : Int) res w0 g W)))
    (hI : IsSc w0 w g s (at_ : Int) 0) (hB : Below w0.heap.size w0 w) :
    Calls Tryz.prog 17 #[ptV g] w (OneOut s (at_ : Int) res w0 g w) := by
  have hgl := blk_lt hI.1
  have hne1 : w.heap.size ≠ g := by omega
  have hne2 : g ≠ w.heap.size := by omega
  have HI := Aside0.mk hI
  have HB := Aside0.mk hB
  clear hI hB
  have z0 : (0 : Int) ≤ (at_ : Int) := by omega
  have z1 : ((at_ : Int)).toNat = at_ := by omega
  go_enter Tryz.func17, Tryz.ntmps17
  go_wp2
  have hS1 := (show (fun w' => IsSc w0 w' g s (at_ : Int) 0 ∧ Below (w.heap.size + 1) (w.alloc (.cells ZTk 45)) w') ((w.alloc (.cells ZTk 45)).drew) from ⟨⟨blk_drew (blk_alloc HI.out.1 _), HI.out.2⟩, (Below.refl _ _).drew⟩)
  refine start_ (n := 10) (S := fun w' => IsSc w0 w' g s (at_ : Int) 0 ∧ Below (w.heap.size + 1) (w.alloc (.cells ZTk 45)) w') (ds := []) #[false, false, false, false, false, false, false, false, false, false] (by kernel_rfl) rfl rfl hS1 (fun hHeld => ?_)
  refine with_tabW lone1.tab1 lone1.bits1 (fun HT_ HW_ => ?_)
  refine pureI 0 (some 5) HT_ rfl rfl (by kernel_rfl) (by rfl) (fun _ => by go_simp; with_reducible rfl) (by simp only [Act.put, List.setIfInBounds_toArray, List.set_cons_zero, List.set_cons_succ]; rfl) ?_
  refine pureI 1 (some 6) HT_ rfl rfl (by kernel_rfl) (by rfl) (fun _ => by go_simp; with_reducible rfl) (by simp only [Act.put, List.setIfInBounds_toArray, List.set_cons_zero, List.set_cons_succ]; rfl) ?_
  refine pureI 2 (some 7) HT_ rfl rfl (by kernel_rfl) (by rfl) (fun _ => by go_simp; with_reducible rfl) (by simp only [Act.put, List.setIfInBounds_toArray, List.set_cons_zero, List.set_cons_succ]; rfl) ?_
  refine pureI 4 (some 9) HT_ rfl rfl (by kernel_rfl) (by rfl) (fun _ => by go_simp; with_reducible rfl) (by simp only [Act.put, List.setIfInBounds_toArray, List.set_cons_zero, List.set_cons_succ]; rfl) ?_
  refine pureI 5 (some 10) HT_ rfl rfl (by kernel_rfl) (by rfl) (fun _ => by go_simp; with_reducible rfl) (by simp only [Act.put, List.setIfInBounds_toArray, List.set_cons_zero, List.set_cons_succ]; rfl) ?_
  refine pureI 6 (some 11) HT_ rfl rfl (by kernel_rfl) (by rfl) (fun _ => by go_simp; with_reducible rfl) (by simp only [Act.put, List.setIfInBounds_toArray, List.set_cons_zero, List.set_cons_succ]; rfl) ?_
  refine takeI 3 (some 8) HT_ HW_ rfl rfl (by kernel_rfl) (by rfl) (by rintro w' ⟨s1, s2⟩; have q0 := (blk_cell s1.1 0).trans (show _ = some (Value.string s) from rfl); have q1 := (blk_cell s1.1 1).trans (show _ = some (Value.int .i64 (at_ : Int)) from rfl); go_simp; with_reducible rfl) hHeld (by simp only [Act.put, List.setIfInBounds_toArray, List.set_cons_zero, List.set_cons_succ]; rfl) ?_
  refine takeI 7 (some 12) HT_ HW_ rfl rfl (by kernel_rfl) (by rfl) (by rintro w' ⟨s1, s2⟩; have q0 := (blk_cell s1.1 0).trans (show _ = some (Value.string s) from rfl); have q1 := (blk_cell s1.1 1).trans (show _ = some (Value.int .i64 (at_ : Int)) from rfl); go_simp; with_reducible rfl) hHeld (by simp only [Act.put, List.setIfInBounds_toArray, List.set_cons_zero, List.set_cons_succ]; rfl) ?_
  refine pureI 8 (some 13) HT_ rfl rfl (by kernel_rfl) (by rfl) (fun _ => by go_simp; with_reducible rfl) (by simp only [Act.put, List.setIfInBounds_toArray, List.set_cons_zero, List.set_cons_succ]; rfl) ?_
  refine pureI 9 (some 4) HT_ rfl rfl (by kernel_rfl) (by rfl) (fun _ => by go_simp; with_reducible rfl) (by simp only [Act.put, List.setIfInBounds_toArray, List.set_cons_zero, List.set_cons_succ]; rfl) ?_
  refine done_ (done_of HT_.out (by kernel_rfl)) ?_
  have H1 := Aside0.mk hHeld
  clear hHeld z0 z1 hc hsz
  go_wp2_with (first
    | (go_at_call 25; (with_reducible refine (lexDigit_calls c _).mono ?_); rintro e w2 ⟨rfl, hb⟩; replace H1 := Aside0.mk (show (IsSc w0 w2 g s (at_ : Int) 0 ∧ Below (w.heap.size + 1) (w.alloc (.cells ZTk 45)) w2) from ⟨H1.out.1.below hb, H1.out.2.trans (hb.mono (by have h := H1.out.2.size; rw [World.size_alloc] at h; exact h))⟩); clear hb)
    | (go_at_call 29; (with_reducible refine (lexLetter_calls c _).mono ?_); rintro e w3 ⟨rfl, hb⟩; replace H1 := Aside0.mk (show (IsSc w0 w3 g s (at_ : Int) 0 ∧ Below (w.heap.size + 1) (w.alloc (.cells ZTk 45)) w3) from ⟨H1.out.1.below hb, H1.out.2.trans (hb.mono (by have h := H1.out.2.size; rw [World.size_alloc] at h; exact h))⟩); clear hb)
    | (go_at_call 31; go_loud (have B1 := Aside0.mk ((bel1 w _).trans (H1.out.2.mono (by omega))); have T1 := Aside0.mk ((H1.out.2.block _ (by omega)).trans (newBlk w _)); refine (HC.out _ (LaidAt hL0 B1.out) H1.out.1 (low HB.out B1.out)).mono ?_; rintro e w9 ⟨t, n, rfl, h0, hs, hb0, hk⟩; have T9 := Aside0.mk ((hk.2 w.heap.size (blk_lt T1.out) hne1 (by simp)).trans T1.out); have H9 := Aside0.mk (And.intro h0 (And.intro hs (And.intro hb0 ((KeepBut.of_below B1.out g none).trans hk (.inl rfl))))); clear h0 hs hb0 hk))
    | ((with_reducible refine gate_store (t := 45) (p := 2) (v := .tmp 48) rfl ?_); refine wpRowSt rfl 45 (.tmp 2) (.tmp 48) rfl (w.heap.size) (TkA t) rfl rfl 45 _ T9.out (by kernel_rfl) rfl rfl ?_))
  refine bodyPost_ret (results_ct rfl _ _ (w.heap.size) 45 (TkA t) (0, 0) _ rfl (setRow_heap _ _ _ _ _ _ T9.out) Tryz.underlying45 rfl (by kernel_rfl)) rfl ?_
  exact ⟨_, _, rfl, H9.out.1, ⟨rowOther _ H9.out.2.1.1 hne2, HI.out.2⟩, rowBelow H9.out.2.2.1 HB.out.size _, keepRow H9.out.2.2.2 (Nat.le_refl _) _⟩
theorem eqB (c d : UInt8) : ((c.toNat : Int) == (d.toNat : Int)) = (c == d) := by
  by_cases h : c = d
  · subst h; rw [beq_self_eq_true, beq_self_eq_true]
  · rw [beq_eq_false_iff_ne.2 h, beq_eq_false_iff_ne.2 (fun e => h (u8_of e))]
theorem one_calls (pre : List UInt8) (c : UInt8) (r : List UInt8) (w0 w : World) (g : Nat) (hL0 : Aside0 (LaidW w)) (hlen : (pre ++ c :: r).length ≤ 1024) (hI : IsSc w0 w g (bl (pre ++ c :: r)) (pre.length : Int) 0) (hB : Below w0.heap.size w0 w) :
    Calls Tryz.prog 17 #[ptV g] w (OneOut (bl (pre ++ c :: r)) (pre.length : Int) (oneT7 (c :: r)) w0 g w) := by
  have hsz : pre.length < (bl (pre ++ c :: r)).size := by rw [bl_size, List.length_append, List.length_cons]; omega
  have hc : ∀ hh : pre.length < (bl (pre ++ c :: r)).size, (bl (pre ++ c :: r))[pre.length]'hh = c := fun hh => get_at pre (c :: r) 0 (by simp) hh
  have h34 := eqB c 34
  have h35 := eqB c 35
  have h36 := eqB c 36
  rw [oneT7_cons]
  cases hd : dg c with
  | true =>
    rw [if_pos rfl]
    exact one_num _ _ c _ w0 w g hd hsz hc hL0 ⟨fun W hL h hb => number_calls pre (c :: r) w0 W g hlen h hb⟩ hI hB
  | false =>
    rw [if_neg (by simp)]
    by_cases e34 : c = 34
    · rw [if_pos e34]
      rw [show (c == 34) = true from beq_iff_eq.2 e34] at h34
      exact one_txt _ _ c _ w0 w g hd h34 hsz hc hL0 ⟨fun W hL h hb => text_calls pre c r w0 W g hlen h hb⟩ hI hB
    · rw [if_neg e34]
      rw [beq_eq_false_iff_ne.2 e34] at h34
      by_cases e35 : c = 35
      · rw [if_pos e35]
        rw [show (c == 35) = true from beq_iff_eq.2 e35] at h35
        exact one_flt _ _ c _ w0 w g hd h34 h35 hsz hc hL0 ⟨fun W hL h hb => fault_calls pre (c :: r) w0 W g hL hlen h hb⟩ hI hB
      · rw [if_neg e35]
        rw [beq_eq_false_iff_ne.2 e35] at h35
        cases hl : ltB c with
        | true =>
          rw [if_pos (by rfl)]
          exact one_wrd _ _ c _ w0 w g hd h34 h35 hl hsz hc hL0 ⟨fun W hL h hb => word_calls pre c r w0 W g (by rw [hl]; rfl) hlen h hb⟩ hI hB
        | false =>
          by_cases e36 : c = 36
          · rw [show (c == 36) = true from beq_iff_eq.2 e36] at h36
            rw [if_pos (by rw [beq_iff_eq.2 e36]; rfl)]
            exact one_wrd2 _ _ c _ w0 w g hd h34 h35 hl h36 hsz hc hL0 ⟨fun W hL h hb => word_calls pre c r w0 W g (by rw [beq_iff_eq.2 e36, Bool.or_true]) hlen h hb⟩ hI hB
          · rw [beq_eq_false_iff_ne.2 e36] at h36
            rw [if_neg (by rw [beq_eq_false_iff_ne.2 e36]; simp)]
            exact one_sgn _ _ c _ w0 w g hd h34 h35 hl h36 hsz hc hL0 ⟨fun W hL h hb => sign_calls pre (c :: r) w0 W g hL hlen h hb⟩ hI hB
end Go.Proofs.YtmppnobldhhpjaaGreatDoor.Pr
end
