/-
  Lemmas for the law LexScansLexPairs.
-/
import Derived.Test.YtmppnobldhhpjaaGreatDoorSLexScansLexPairs19
import Derived.Test.YtmppnobldhhpjaaGreatDoorSLexScansLexPairs5
section
namespace Go.Proofs.YtmppnobldhhpjaaGreatDoor.Pr
set_option linter.unusedVariables false
set_option linter.unusedSimpArgs false
open Go.RowKit Go.Proofs.YtmppnobldhhpjaaGreatDoorW.PrintWords Go.Proofs.YtmppnobldhhpjaaGreatDoorW.PrintLast Go.Proofs.YtmppnobldhhpjaaGreatDoorW.PrintMore
def lsgn4.T4 : Bool × List (List Nat × List Nat) := (true, [([], []), ([0], [0]), ([1], [1]), ([2], [2]), ([], []), ([4], [4]), ([5], [5]), ([6], [6]), ([], []), ([8], [8]), ([9], [9]), ([10], [10]), ([11], [11]), ([], []), ([13], [13]), ([14], [14]), ([15], [15]), ([], []), ([16, 17], [16, 17]), ([12, 18], [12, 18]), ([3, 7, 19], [3, 7, 19]), ([20, 0, 1, 2, 3, 4, 5, 6, 7, 8, 9, 10, 11, 12, 13, 14, 15, 16, 17, 18, 19, 20], [20])])
def lsgn4.B4 : List Nat := [0, 1, 3, 7, 0, 16, 48, 112, 0, 256, 768, 1792, 3840, 0, 8192, 24576, 57344, 0, 253952, 524032, 1048575, 2097151]
theorem lsgn4.tab4 : rtab .any (opsOf Tryz.f31 4) = lsgn4.T4 := by kernel_rfl
theorem lsgn4.bits4 : waitsOk lsgn4.T4.2 lsgn4.B4 = true := by kernel_rfl
theorem contains_nil (s : List UInt8) (h : s ≠ []) : Lib.contains [] s = false := by
  unfold Lib.contains Lib.index
  cases s with
  | nil => exact absurd rfl h
  | cons a r => rfl
theorem contains_cons (b : UInt8) (l s : List UInt8) : Lib.contains (b :: l) s = (s.isPrefixOf (b :: l) || Lib.contains l s) := by
  have hge := Lib.index_ge l s
  have e : Lib.contains (b :: l) s = decide (0 ≤ (if s.isPrefixOf (b :: l) then (0 : Int) else if Lib.index l s == -1 then -1 else Lib.index l s + 1)) := rfl
  rw [e]
  unfold Lib.contains
  cases hp : s.isPrefixOf (b :: l) with
  | true => rw [if_pos rfl]; rfl
  | false =>
    rw [if_neg (by simp)]
    by_cases h : Lib.index l s = -1
    · rw [h]; rfl
    · rw [if_neg (by simpa using h), Bool.false_or, decide_eq_true (by omega), decide_eq_true (by omega)]
def SIGN : List UInt8 := [32, 60, 62, 32, 60, 61, 32, 62, 61, 32, 43, 32, 45, 32, 42, 32, 47, 32, 38, 32, 61, 32, 60, 32, 62, 32, 40, 32, 41, 32, 44, 32, 58, 32]
theorem sig_one (a : UInt8) : Lib.contains SIGN [32, a, 32] = sgs1.contains [a] :=
  u8_dec (fun a => Lib.contains SIGN [32, a, 32] = sgs1.contains [a]) (by decide +kernel) a
set_option maxRecDepth 100000 in
theorem sig_two (a b : UInt8) : Lib.contains SIGN [32, a, b, 32] = sgs2.contains [a, b] := by
  have e : Lib.contains SIGN [32, a, b, 32] = ((a == 60 && b == 62) || ((a == 60 && b == 61) || (a == 62 && b == 61))) := by
    unfold SIGN
    simp only [contains_cons, contains_nil _ (List.cons_ne_nil _ _), List.isPrefixOf, Bool.and_true, show ((32 : UInt8) == 32) = true from rfl, Bool.true_and, Bool.or_false]
    simp (config := { decide := true })
  rw [e]
  unfold sgs2
  simp [List.contains, List.elem]
  cases (a == 60 && b == 62) <;> cases (a == 60 && b == 61) <;> cases (a == 62 && b == 61) <;> rfl
theorem find_take (l : List UInt8) (n : Nat) : ∀ L : List (List UInt8), (∀ g ∈ L, g.length = n) → L.find? (fun g => g.isPrefixOf l) = if L.contains (l.take n) = true then some (l.take n) else none
  | [], _ => rfl
  | g :: L, h => by
    have hg := h g (List.mem_cons_self ..)
    have ih := find_take l n L (fun x hx => h x (List.mem_cons_of_mem _ hx))
    rw [List.find?_cons, List.contains_cons]
    by_cases hp : l.take n = g
    · have hp2 : g.isPrefixOf l = true := List.isPrefixOf_iff_prefix.2 (by rw [← hp]; exact List.take_prefix n l)
      rw [hp2, show (l.take n == g) = true from by rw [hp]; exact beq_self_eq_true _]
      rw [Bool.true_or, if_pos rfl, hp]
    · have hp2 : g.isPrefixOf l = false := by
        rw [Bool.eq_false_iff]
        intro h2
        have h3 := List.prefix_iff_eq_take.1 (List.isPrefixOf_iff_prefix.1 h2)
        rw [hg] at h3
        exact hp h3.symm
      rw [hp2, show (l.take n == g) = false from beq_eq_false_iff_ne.2 hp, Bool.false_or]
      exact ih
def sg0 (l : List UInt8) : Tk × Nat × Int := (tkZ, 0, 5)
def sg1 (l : List UInt8) : Tk × Nat × Int := if sgs1.contains (l.take 1) = true then (tkO (l.take 1), 1, 0) else sg0 l
def sg2 (l : List UInt8) : Tk × Nat × Int := if sgs2.contains (l.take 2) = true then (tkO (l.take 2), 2, 0) else sg1 l
theorem sgnT7_eq (l : List UInt8) : sgnT7 l = sg2 l := by
  unfold sgnT7 sg2 sg1 sg0
  rw [List.find?_append, find_take l 2 sgs2 (by decide), find_take l 1 sgs1 (by decide)]
  by_cases h2 : sgs2.contains (l.take 2) = true
  · rw [if_pos h2, if_pos h2]
    have : (l.take 2).length = 2 := by
      have hm := List.contains_iff_mem.1 h2
      exact (show ∀ g ∈ sgs2, g.length = 2 by decide) _ hm
    simp only [Option.some_or, this]
  · rw [if_neg h2, if_neg h2, Option.none_or]
    by_cases h1 : sgs1.contains (l.take 1) = true
    · rw [if_pos h1, if_pos h1]
      have : (l.take 1).length = 1 := by
        have hm := List.contains_iff_mem.1 h1
        exact (show ∀ g ∈ sgs1, g.length = 1 by decide) _ hm
      simp only [this]
    · rw [if_neg h1, if_neg h1]
theorem wpVal {P : Program} {ops : Array Oper} {rest : List Oper} {o : Oper} {a : Act} {w : World} {Q : Exit → Act → World → Prop} (N : Tmp) (hN : o.dst = some N) (hgd : o.guard = none) {v : Value} (hrun : (execOp a.eval o).run P w = .ok (.value v) w)
    (h : wpList P ops Q rest (a.put (some N) v) w) : wpList P ops Q (o :: rest) a w := by
  refine wpList_plain hgd fun _ hK => ?_
  unfold Oper.wp
  rw [hrun]
  exact hK _ _ (by rw [hN]; exact h)
theorem bl_cat (a b : List UInt8) : bl a ++ bl b = bl (a ++ b) := by
  apply ByteArray.ext
  simp [bl]
theorem contains_calls (a b : ByteArray) (w : World) (hL0 : Aside0 (LaidW w)) (h : a.size ≤ 1000) : Calls Tryz.prog 45 #[.string a, .string b] w fun e w' => e = .returned (.bool (Lib.contains a.data.toList b.data.toList)) ∧ Below w.heap.size w w' := by
  obtain ⟨m, hm⟩ := hL0.out.maxLen
  exact (Tryz.strings_Contains a b m w (by omega) hm).mono fun e w' h => ⟨h.1, by rw [h.2]; exact Below.refl _ _⟩
set_option maxHeartbeats 8000000 in
set_option maxRecDepth 100000 in
theorem sign_calls (pre l : List UInt8) (w0 w : World) (g : Nat) (hL0 : Aside0 (LaidW w)) (hlen : (pre ++ l).length ≤ 1024) (hI : IsSc w0 w g (bl (pre ++ l)) (pre.length : Int) 0) (hB : Below w0.heap.size w0 w) :
    Calls Tryz.prog 31 #[ptV g] w (OneOut (bl (pre ++ l)) (pre.length : Int) (sgnT7 l) w0 g w) := by
  rw [sgnT7_eq]
  have hgl := blk_lt hI.1
  have hne1 : w.heap.size ≠ g := by omega
  have hne2 : g ≠ w.heap.size := by omega
  have hsz : (bl (pre ++ l)).size = pre.length + l.length := by rw [bl_size, List.length_append]
  have HX := Aside0.mk (show ∀ n, (bl (pre ++ l)).extract pre.length (pre.length + min l.length n) = bl (l.take n) from fun n => by
    rw [ext_at pre l _ (Nat.min_le_left _ _)]
    congr 1
    rcases Nat.le_total l.length n with h | h
    · rw [Nat.min_eq_left h, List.take_length, List.take_of_length_le h]
    · rw [Nat.min_eq_right h])
  have HC := Aside0.mk (show ∀ (n : Nat) (W : World), Below w.heap.size w W → Calls Tryz.prog 45 #[.string ⟨#[32, 60, 62, 32, 60, 61, 32, 62, 61, 32, 43, 32, 45, 32, 42, 32, 47, 32, 38, 32, 61, 32, 60, 32, 62, 32, 40, 32, 41, 32, 44, 32, 58, 32]⟩, .string ((⟨#[32]⟩ ++ bl (l.take n)) ++ ⟨#[32]⟩)] W fun e w' => e = .returned (.bool (Lib.contains SIGN (32 :: (l.take n ++ [32])))) ∧ Below W.heap.size W w' from fun n W hb => by
    have h := contains_calls (bl SIGN) ((⟨#[32]⟩ ++ bl (l.take n)) ++ ⟨#[32]⟩) W (LaidAt hL0 hb) (by decide)
    rw [show ((⟨#[32]⟩ : ByteArray) ++ bl (l.take n)) ++ ⟨#[32]⟩ = bl (32 :: (l.take n ++ [32])) from by
      rw [show (⟨#[32]⟩ : ByteArray) = bl [32] from rfl, bl_cat, bl_cat]; rfl, bl_data, bl_data] at h
    rw [show ((⟨#[32]⟩ : ByteArray) ++ bl (l.take n)) ++ ⟨#[32]⟩ = bl (32 :: (l.take n ++ [32])) from by
      rw [show (⟨#[32]⟩ : ByteArray) = bl [32] from rfl, bl_cat, bl_cat]; rfl]
    exact h)
  rw [List.length_append] at hlen
  generalize bl (pre ++ l) = s at hI hsz HX ⊢
  obtain ⟨res, hres⟩ : ∃ res, res = sg2 l := ⟨_, rfl⟩
  rw [← hres]
  have HI := Aside0.mk hI
  have HB := Aside0.mk hB
  have HU := Aside0.mk hres
  clear hI hB hres
  have z0 : (0 : Int) ≤ (pre.length : Int) := by omega
  go_enter Tryz.func31, Tryz.ntmps31
  go_wp2
  go_loopg [8] 2 (fun kq v8 w' => ∃ j : Nat, j + kq = 2 ∧ v8 = .int .i64 (j : Int) ∧ Aside0 (res = (if j = 0 then sg2 l else if j = 1 then sg1 l else sg0 l)) ∧ Aside0 (Below (w.heap.size + 1) (w.alloc (.cells ZTk 45)) w'))
  case atStart => exact ⟨0, rfl, rfl, HU, ⟨Below.refl _ _⟩⟩
  case round =>
    clear HU
    obtain ⟨j, hj, rfl, HU, HW⟩ := hrel
    have S0 := Aside0.mk (show IsSc w0 wr g s (pre.length : Int) 0 from ⟨(HW.out.block g (by omega)).trans (blk_alloc HI.out.1 _), HI.out.2⟩)
    have T0 := Aside0.mk (show wr.heap[w.heap.size]? = some (.cells ZTk 45 (0, 0)) from (HW.out.block _ (by omega)).trans (newBlk w _))
    have B0 := Aside0.mk (show Below w.heap.size w wr from (bel1 w _).trans (HW.out.mono (by omega)))
    rcases (show j = 0 ∨ j = 1 ∨ j = 2 by omega) with rfl | rfl | rfl
    · obtain rfl : gk = 2 := by omega
      replace HU := Aside0.mk (show res = sg2 l from HU.out)
      have hx : s.extract pre.length (pre.length + min l.length 2) = bl (l.take 2) := HX.out 2
      have hxs : (bl (l.take 2)).size = min l.length 2 := by rw [bl_size, List.length_take, Nat.min_comm]
      have HK := Aside0.mk (HC.out 2)
      obtain ⟨x, hgx⟩ : ∃ x, bl (l.take 2) = x := ⟨_, rfl⟩
      rw [hgx] at hx hxs HK
      have HG := Aside0.mk hgx
      clear hgx
      have m1 : IntKind.i64.wrap ((pre.length : Int) + 2) = (pre.length : Int) + 2 := by rw [i64_w]; unfold wrap64; omega
      have hS4 := (show (fun w' => w'.cell? ⟨g, 0, none⟩ = some (.string s) ∧ w'.cell? ⟨g, 1, none⟩ = some (.int .i64 (pre.length : Int)) ∧ Below (w.heap.size + 1) (w.alloc (.cells ZTk 45)) w') (wr.drew) from ⟨(blk_cell (blk_drew S0.out.1) 0).trans rfl, (blk_cell (blk_drew S0.out.1) 1).trans rfl, HW.out.drew⟩)
      by_cases hn : 2 ≤ l.length
      · have m2 : min ((pre.length : Int) + (l.length : Int)) ((pre.length : Int) + 2) = (pre.length : Int) + 2 := by omega
        have e1 : s.extract pre.length (pre.length + 2) = x := by rw [Nat.min_eq_right hn] at hx; exact hx
        have e2 : x.size = 2 := by rw [hxs]; omega
        have z1 : (pre.length : Int) ≤ (pre.length : Int) + 2 := by omega
        have z2 : (pre.length : Int) + 2 ≤ (pre.length : Int) + (l.length : Int) := by omega
        have z3 : ((pre.length : Int) + 2).toNat = pre.length + 2 := by omega
        clear hx hxs
        have hlt : (l.take 2).length = 2 := by rw [List.length_take]; omega
        have hcon : Lib.contains SIGN (32 :: (l.take 2 ++ [32])) = sgs2.contains (l.take 2) := by
          match l, hn with
          | a :: b :: q, _ => exact sig_two a b
        rw [hcon] at HK
        cases hcc : sgs2.contains (l.take 2) with
        | true =>
          have HN := Aside0.mk (show res = (tkO (l.take 2), 2, 0) by rw [HU.out]; unfold sg2; rw [if_pos hcc])
          rw [hcc] at HK
          clear hcon
          go_wp2_with (first
          | ((with_reducible refine gate_dst (N := 10) rfl ?_); (refine wpVal 10 rfl rfl (v := .int .i64 2) (by kernel_rfl) ?_)))
          refine start_ (n := 22) (S := fun w' => w'.cell? ⟨g, 0, none⟩ = some (.string s) ∧ w'.cell? ⟨g, 1, none⟩ = some (.int .i64 (pre.length : Int)) ∧ Below (w.heap.size + 1) (w.alloc (.cells ZTk 45)) w') (ds := []) #[false, false, false, false, false, false, false, false, false, false, false, false, false, false, false, false, false, false, false, false, false, false] (by kernel_rfl) rfl rfl hS4 (fun hHeld => ?_)
          refine with_tabW lsgn4.tab4 lsgn4.bits4 (fun HT_ HW_ => ?_)
          refine pureI 0 (some 11) HT_ rfl rfl (by kernel_rfl) (by rfl) (fun _ => by go_simp; with_reducible rfl) (by simp only [Act.put, List.setIfInBounds_toArray, List.set_cons_zero, List.set_cons_succ]; rfl) ?_
          refine pureI 1 (some 12) HT_ rfl rfl (by kernel_rfl) (by rfl) (fun _ => by go_simp; with_reducible rfl) (by simp only [Act.put, List.setIfInBounds_toArray, List.set_cons_zero, List.set_cons_succ]; rfl) ?_
          refine pureI 2 (some 13) HT_ rfl rfl (by kernel_rfl) (by rfl) (fun _ => by go_simp; with_reducible rfl) (by simp only [Act.put, List.setIfInBounds_toArray, List.set_cons_zero, List.set_cons_succ]; rfl) ?_
          refine pureI 4 (some 15) HT_ rfl rfl (by kernel_rfl) (by rfl) (fun _ => by go_simp; with_reducible rfl) (by simp only [Act.put, List.setIfInBounds_toArray, List.set_cons_zero, List.set_cons_succ]; rfl) ?_
          refine pureI 5 (some 16) HT_ rfl rfl (by kernel_rfl) (by rfl) (fun _ => by go_simp; with_reducible rfl) (by simp only [Act.put, List.setIfInBounds_toArray, List.set_cons_zero, List.set_cons_succ]; rfl) ?_
          refine pureI 6 (some 17) HT_ rfl rfl (by kernel_rfl) (by rfl) (fun _ => by go_simp; with_reducible rfl) (by simp only [Act.put, List.setIfInBounds_toArray, List.set_cons_zero, List.set_cons_succ]; rfl) ?_
          refine pureI 8 (some 19) HT_ rfl rfl (by kernel_rfl) (by rfl) (fun _ => by go_simp; with_reducible rfl) (by simp only [Act.put, List.setIfInBounds_toArray, List.set_cons_zero, List.set_cons_succ]; rfl) ?_
          refine pureI 9 (some 20) HT_ rfl rfl (by kernel_rfl) (by rfl) (fun _ => by go_simp; with_reducible rfl) (by simp only [Act.put, List.setIfInBounds_toArray, List.set_cons_zero, List.set_cons_succ]; rfl) ?_
          refine pureI 10 (some 21) HT_ rfl rfl (by kernel_rfl) (by rfl) (fun _ => by go_simp; with_reducible rfl) (by simp only [Act.put, List.setIfInBounds_toArray, List.set_cons_zero, List.set_cons_succ]; rfl) ?_
          refine pureI 13 (some 24) HT_ rfl rfl (by kernel_rfl) (by rfl) (fun _ => by go_simp; with_reducible rfl) (by simp only [Act.put, List.setIfInBounds_toArray, List.set_cons_zero, List.set_cons_succ]; rfl) ?_
          refine pureI 14 (some 25) HT_ rfl rfl (by kernel_rfl) (by rfl) (fun _ => by go_simp; with_reducible rfl) (by simp only [Act.put, List.setIfInBounds_toArray, List.set_cons_zero, List.set_cons_succ]; rfl) ?_
          refine pureI 15 (some 26) HT_ rfl rfl (by kernel_rfl) (by rfl) (fun _ => by go_simp; with_reducible rfl) (by simp only [Act.put, List.setIfInBounds_toArray, List.set_cons_zero, List.set_cons_succ]; rfl) ?_
          refine pureI 17 (some 28) HT_ rfl rfl (by kernel_rfl) (by rfl) (fun _ => by go_simp; with_reducible rfl) (by simp only [Act.put, List.setIfInBounds_toArray, List.set_cons_zero, List.set_cons_succ]; rfl) ?_
          refine takeI 3 (some 14) HT_ HW_ rfl rfl (by kernel_rfl) (by rfl) (by rintro w' ⟨s0, s1, s2⟩; go_simp; with_reducible rfl) hHeld (by simp only [Act.put, List.setIfInBounds_toArray, List.set_cons_zero, List.set_cons_succ]; rfl) ?_
          refine takeI 7 (some 18) HT_ HW_ rfl rfl (by kernel_rfl) (by rfl) (by rintro w' ⟨s0, s1, s2⟩; go_simp; with_reducible rfl) hHeld (by simp only [Act.put, List.setIfInBounds_toArray, List.set_cons_zero, List.set_cons_succ]; rfl) ?_
          refine takeI 11 (some 22) HT_ HW_ rfl rfl (by kernel_rfl) (by rfl) (by rintro w' ⟨s0, s1, s2⟩; go_simp; with_reducible rfl) hHeld (by simp only [Act.put, List.setIfInBounds_toArray, List.set_cons_zero, List.set_cons_succ]; rfl) ?_
          refine pureI 12 (some 23) HT_ rfl rfl (by kernel_rfl) (by rfl) (fun _ => by go_simp; with_reducible rfl) (by simp only [Act.put, List.setIfInBounds_toArray, List.set_cons_zero, List.set_cons_succ]; rfl) ?_
          refine takeI 16 (some 27) HT_ HW_ rfl rfl (by kernel_rfl) (by rfl) (by rintro w' ⟨s0, s1, s2⟩; go_simp; with_reducible rfl) hHeld (by simp only [Act.put, List.setIfInBounds_toArray, List.set_cons_zero, List.set_cons_succ]; rfl) ?_
          refine pureI 18 (some 29) HT_ rfl rfl (by kernel_rfl) (by rfl) (fun _ => by go_simp; with_reducible rfl) (by simp only [Act.put, List.setIfInBounds_toArray, List.set_cons_zero, List.set_cons_succ]; rfl) ?_
          refine pureI 19 (some 30) HT_ rfl rfl (by kernel_rfl) (by rfl) (fun _ => by go_simp; with_reducible rfl) (by simp only [Act.put, List.setIfInBounds_toArray, List.set_cons_zero, List.set_cons_succ]; rfl) ?_
          refine pureI 20 (some 31) HT_ rfl rfl (by kernel_rfl) (by rfl) (fun _ => by go_simp; with_reducible rfl) (by simp only [Act.put, List.setIfInBounds_toArray, List.set_cons_zero, List.set_cons_succ]; rfl) ?_
          refine pureI 21 (some 6) HT_ rfl rfl (by kernel_rfl) (by rfl) (fun _ => by go_simp; with_reducible rfl) (by simp only [Act.put, List.setIfInBounds_toArray, List.set_cons_zero, List.set_cons_succ]; rfl) ?_
          refine done_ (done_of HT_.out (by kernel_rfl)) ?_
          have H4 := Aside0.mk hHeld
          clear hHeld
          go_wp2_with (first
            | (go_at_call 45; refine (HK.out _ ((bel1 w _).trans (H4.out.2.2.mono (by omega)))).mono ?_; rintro e w3 ⟨rfl, hb⟩; have W3 := Aside0.mk (H4.out.2.2.trans (hb.mono (by have h := H4.out.2.2.size; rw [World.size_alloc] at h; exact h))); clear hb)
            | ((with_reducible refine gate_store (t := 45) (p := 2) (v := .tmp 43) rfl ?_); refine wpRowSt rfl 45 (.tmp 2) (.tmp 43) rfl (w.heap.size) (TkA ⟨4, vlZ, ceZ, x, 0⟩) rfl rfl 45 _ ((W3.out.block _ (by omega)).trans (newBlk w _)) (by kernel_rfl) rfl rfl ?_))
          refine bodyPost_ret (results_ct rfl _ _ (w.heap.size) 45 (TkA ⟨4, vlZ, ceZ, x, 0⟩) (0, 0) _ rfl (setRow_heap _ _ _ _ _ _ ((W3.out.block _ (by omega)).trans (newBlk w _))) Tryz.underlying45 rfl (by kernel_rfl)) rfl ?_
          have B7 := (bel1 w _).trans (W3.out.mono (by omega : w.heap.size ≤ w.heap.size + 1))
          have S7 : IsSc w0 w3 g s (pre.length : Int) 0 := ⟨(W3.out.block g (by omega)).trans (blk_alloc HI.out.1 _), HI.out.2⟩
          refine ⟨_, _, rfl, fun h => ?_, ?_, ?_, ?_⟩
          · rw [HN.out]; exact ⟨by show (⟨4, vlZ, ceZ, x, 0⟩ : Tk) = tkO (l.take 2); rw [← HG.out]; rfl, rfl⟩
          · rw [HN.out]; exact ⟨rowOther _ S7.1 hne2, HI.out.2⟩
          · exact rowBelow (low HB.out B7) HB.out.size _
          · exact keepRow (KeepBut.of_below B7 g none) (Nat.le_refl _) _
        | false =>
          have HN := Aside0.mk (show res = sg1 l by rw [HU.out]; unfold sg2; rw [if_neg (by rw [hcc]; simp)])
          rw [hcc] at HK
          clear hcon
          go_wp2_with (first
          | ((with_reducible refine gate_dst (N := 10) rfl ?_); (refine wpVal 10 rfl rfl (v := .int .i64 2) (by kernel_rfl) ?_)))
          refine start_ (n := 22) (S := fun w' => w'.cell? ⟨g, 0, none⟩ = some (.string s) ∧ w'.cell? ⟨g, 1, none⟩ = some (.int .i64 (pre.length : Int)) ∧ Below (w.heap.size + 1) (w.alloc (.cells ZTk 45)) w') (ds := []) #[false, false, false, false, false, false, false, false, false, false, false, false, false, false, false, false, false, false, false, false, false, false] (by kernel_rfl) rfl rfl hS4 (fun hHeld => ?_)
          refine with_tabW lsgn4.tab4 lsgn4.bits4 (fun HT_ HW_ => ?_)
          refine pureI 0 (some 11) HT_ rfl rfl (by kernel_rfl) (by rfl) (fun _ => by go_simp; with_reducible rfl) (by simp only [Act.put, List.setIfInBounds_toArray, List.set_cons_zero, List.set_cons_succ]; rfl) ?_
          refine pureI 1 (some 12) HT_ rfl rfl (by kernel_rfl) (by rfl) (fun _ => by go_simp; with_reducible rfl) (by simp only [Act.put, List.setIfInBounds_toArray, List.set_cons_zero, List.set_cons_succ]; rfl) ?_
          refine pureI 2 (some 13) HT_ rfl rfl (by kernel_rfl) (by rfl) (fun _ => by go_simp; with_reducible rfl) (by simp only [Act.put, List.setIfInBounds_toArray, List.set_cons_zero, List.set_cons_succ]; rfl) ?_
          refine pureI 4 (some 15) HT_ rfl rfl (by kernel_rfl) (by rfl) (fun _ => by go_simp; with_reducible rfl) (by simp only [Act.put, List.setIfInBounds_toArray, List.set_cons_zero, List.set_cons_succ]; rfl) ?_
          refine pureI 5 (some 16) HT_ rfl rfl (by kernel_rfl) (by rfl) (fun _ => by go_simp; with_reducible rfl) (by simp only [Act.put, List.setIfInBounds_toArray, List.set_cons_zero, List.set_cons_succ]; rfl) ?_
          refine pureI 6 (some 17) HT_ rfl rfl (by kernel_rfl) (by rfl) (fun _ => by go_simp; with_reducible rfl) (by simp only [Act.put, List.setIfInBounds_toArray, List.set_cons_zero, List.set_cons_succ]; rfl) ?_
          refine pureI 8 (some 19) HT_ rfl rfl (by kernel_rfl) (by rfl) (fun _ => by go_simp; with_reducible rfl) (by simp only [Act.put, List.setIfInBounds_toArray, List.set_cons_zero, List.set_cons_succ]; rfl) ?_
          refine pureI 9 (some 20) HT_ rfl rfl (by kernel_rfl) (by rfl) (fun _ => by go_simp; with_reducible rfl) (by simp only [Act.put, List.setIfInBounds_toArray, List.set_cons_zero, List.set_cons_succ]; rfl) ?_
          refine pureI 10 (some 21) HT_ rfl rfl (by kernel_rfl) (by rfl) (fun _ => by go_simp; with_reducible rfl) (by simp only [Act.put, List.setIfInBounds_toArray, List.set_cons_zero, List.set_cons_succ]; rfl) ?_
          refine pureI 13 (some 24) HT_ rfl rfl (by kernel_rfl) (by rfl) (fun _ => by go_simp; with_reducible rfl) (by simp only [Act.put, List.setIfInBounds_toArray, List.set_cons_zero, List.set_cons_succ]; rfl) ?_
          refine pureI 14 (some 25) HT_ rfl rfl (by kernel_rfl) (by rfl) (fun _ => by go_simp; with_reducible rfl) (by simp only [Act.put, List.setIfInBounds_toArray, List.set_cons_zero, List.set_cons_succ]; rfl) ?_
          refine pureI 15 (some 26) HT_ rfl rfl (by kernel_rfl) (by rfl) (fun _ => by go_simp; with_reducible rfl) (by simp only [Act.put, List.setIfInBounds_toArray, List.set_cons_zero, List.set_cons_succ]; rfl) ?_
          refine pureI 17 (some 28) HT_ rfl rfl (by kernel_rfl) (by rfl) (fun _ => by go_simp; with_reducible rfl) (by simp only [Act.put, List.setIfInBounds_toArray, List.set_cons_zero, List.set_cons_succ]; rfl) ?_
          refine takeI 3 (some 14) HT_ HW_ rfl rfl (by kernel_rfl) (by rfl) (by rintro w' ⟨s0, s1, s2⟩; go_simp; with_reducible rfl) hHeld (by simp only [Act.put, List.setIfInBounds_toArray, List.set_cons_zero, List.set_cons_succ]; rfl) ?_
          refine takeI 7 (some 18) HT_ HW_ rfl rfl (by kernel_rfl) (by rfl) (by rintro w' ⟨s0, s1, s2⟩; go_simp; with_reducible rfl) hHeld (by simp only [Act.put, List.setIfInBounds_toArray, List.set_cons_zero, List.set_cons_succ]; rfl) ?_
          refine takeI 11 (some 22) HT_ HW_ rfl rfl (by kernel_rfl) (by rfl) (by rintro w' ⟨s0, s1, s2⟩; go_simp; with_reducible rfl) hHeld (by simp only [Act.put, List.setIfInBounds_toArray, List.set_cons_zero, List.set_cons_succ]; rfl) ?_
          refine pureI 12 (some 23) HT_ rfl rfl (by kernel_rfl) (by rfl) (fun _ => by go_simp; with_reducible rfl) (by simp only [Act.put, List.setIfInBounds_toArray, List.set_cons_zero, List.set_cons_succ]; rfl) ?_
          refine takeI 16 (some 27) HT_ HW_ rfl rfl (by kernel_rfl) (by rfl) (by rintro w' ⟨s0, s1, s2⟩; go_simp; with_reducible rfl) hHeld (by simp only [Act.put, List.setIfInBounds_toArray, List.set_cons_zero, List.set_cons_succ]; rfl) ?_
          refine pureI 18 (some 29) HT_ rfl rfl (by kernel_rfl) (by rfl) (fun _ => by go_simp; with_reducible rfl) (by simp only [Act.put, List.setIfInBounds_toArray, List.set_cons_zero, List.set_cons_succ]; rfl) ?_
          refine pureI 19 (some 30) HT_ rfl rfl (by kernel_rfl) (by rfl) (fun _ => by go_simp; with_reducible rfl) (by simp only [Act.put, List.setIfInBounds_toArray, List.set_cons_zero, List.set_cons_succ]; rfl) ?_
          refine pureI 20 (some 31) HT_ rfl rfl (by kernel_rfl) (by rfl) (fun _ => by go_simp; with_reducible rfl) (by simp only [Act.put, List.setIfInBounds_toArray, List.set_cons_zero, List.set_cons_succ]; rfl) ?_
          refine pureI 21 (some 6) HT_ rfl rfl (by kernel_rfl) (by rfl) (fun _ => by go_simp; with_reducible rfl) (by simp only [Act.put, List.setIfInBounds_toArray, List.set_cons_zero, List.set_cons_succ]; rfl) ?_
          refine done_ (done_of HT_.out (by kernel_rfl)) ?_
          have H4 := Aside0.mk hHeld
          clear hHeld
          go_wp2_with (first
            | (go_at_call 45; refine (HK.out _ ((bel1 w _).trans (H4.out.2.2.mono (by omega)))).mono ?_; rintro e w3 ⟨rfl, hb⟩; have W3 := Aside0.mk (H4.out.2.2.trans (hb.mono (by have h := H4.out.2.2.size; rw [World.size_alloc] at h; exact h))); clear hb))
          go_roundg 1
          case measure => omega
          case rel => exact ⟨1, rfl, rfl, ⟨HN.out⟩, ⟨W3.out⟩⟩
      · skip
        have m2 : min ((pre.length : Int) + (l.length : Int)) ((pre.length : Int) + 2) = (pre.length : Int) + (l.length : Int) := by omega
        have e1 : s.extract pre.length (pre.length + l.length) = x := by rw [Nat.min_eq_left (by omega)] at hx; exact hx
        have e2 : x.size = l.length := by rw [hxs]; omega
        have z1 : (pre.length : Int) ≤ (pre.length : Int) + (l.length : Int) := by omega
        have z3 : ((pre.length : Int) + (l.length : Int)).toNat = pre.length + l.length := by omega
        have z4 : ((l.length : Int) == 2) = false := beq_eq_false_iff_ne.2 (by omega)
        clear hx hxs
        have HN := Aside0.mk (show res = sg1 l by
          rw [HU.out]
          unfold sg2
          rw [if_neg]
          intro hm
          have h1 := (show ∀ g ∈ sgs2, g.length = 2 by decide) _ (List.contains_iff_mem.1 hm)
          rw [List.length_take] at h1
          omega)
        go_wp2_with (first
          | ((with_reducible refine gate_dst (N := 10) rfl ?_); (refine wpVal 10 rfl rfl (v := .int .i64 2) (by kernel_rfl) ?_)))
        refine start_ (n := 22) (S := fun w' => w'.cell? ⟨g, 0, none⟩ = some (.string s) ∧ w'.cell? ⟨g, 1, none⟩ = some (.int .i64 (pre.length : Int)) ∧ Below (w.heap.size + 1) (w.alloc (.cells ZTk 45)) w') (ds := []) #[false, false, false, false, false, false, false, false, false, false, false, false, false, false, false, false, false, false, false, false, false, false] (by kernel_rfl) rfl rfl hS4 (fun hHeld => ?_)
        refine with_tabW lsgn4.tab4 lsgn4.bits4 (fun HT_ HW_ => ?_)
        refine pureI 0 (some 11) HT_ rfl rfl (by kernel_rfl) (by rfl) (fun _ => by go_simp; with_reducible rfl) (by simp only [Act.put, List.setIfInBounds_toArray, List.set_cons_zero, List.set_cons_succ]; rfl) ?_
        refine pureI 1 (some 12) HT_ rfl rfl (by kernel_rfl) (by rfl) (fun _ => by go_simp; with_reducible rfl) (by simp only [Act.put, List.setIfInBounds_toArray, List.set_cons_zero, List.set_cons_succ]; rfl) ?_
        refine pureI 2 (some 13) HT_ rfl rfl (by kernel_rfl) (by rfl) (fun _ => by go_simp; with_reducible rfl) (by simp only [Act.put, List.setIfInBounds_toArray, List.set_cons_zero, List.set_cons_succ]; rfl) ?_
        refine pureI 4 (some 15) HT_ rfl rfl (by kernel_rfl) (by rfl) (fun _ => by go_simp; with_reducible rfl) (by simp only [Act.put, List.setIfInBounds_toArray, List.set_cons_zero, List.set_cons_succ]; rfl) ?_
        refine pureI 5 (some 16) HT_ rfl rfl (by kernel_rfl) (by rfl) (fun _ => by go_simp; with_reducible rfl) (by simp only [Act.put, List.setIfInBounds_toArray, List.set_cons_zero, List.set_cons_succ]; rfl) ?_
        refine pureI 6 (some 17) HT_ rfl rfl (by kernel_rfl) (by rfl) (fun _ => by go_simp; with_reducible rfl) (by simp only [Act.put, List.setIfInBounds_toArray, List.set_cons_zero, List.set_cons_succ]; rfl) ?_
        refine pureI 8 (some 19) HT_ rfl rfl (by kernel_rfl) (by rfl) (fun _ => by go_simp; with_reducible rfl) (by simp only [Act.put, List.setIfInBounds_toArray, List.set_cons_zero, List.set_cons_succ]; rfl) ?_
        refine pureI 9 (some 20) HT_ rfl rfl (by kernel_rfl) (by rfl) (fun _ => by go_simp; with_reducible rfl) (by simp only [Act.put, List.setIfInBounds_toArray, List.set_cons_zero, List.set_cons_succ]; rfl) ?_
        refine pureI 10 (some 21) HT_ rfl rfl (by kernel_rfl) (by rfl) (fun _ => by go_simp; with_reducible rfl) (by simp only [Act.put, List.setIfInBounds_toArray, List.set_cons_zero, List.set_cons_succ]; rfl) ?_
        refine pureI 13 (some 24) HT_ rfl rfl (by kernel_rfl) (by rfl) (fun _ => by go_simp; with_reducible rfl) (by simp only [Act.put, List.setIfInBounds_toArray, List.set_cons_zero, List.set_cons_succ]; rfl) ?_
        refine pureI 14 (some 25) HT_ rfl rfl (by kernel_rfl) (by rfl) (fun _ => by go_simp; with_reducible rfl) (by simp only [Act.put, List.setIfInBounds_toArray, List.set_cons_zero, List.set_cons_succ]; rfl) ?_
        refine pureI 15 (some 26) HT_ rfl rfl (by kernel_rfl) (by rfl) (fun _ => by go_simp; with_reducible rfl) (by simp only [Act.put, List.setIfInBounds_toArray, List.set_cons_zero, List.set_cons_succ]; rfl) ?_
        refine pureI 17 (some 28) HT_ rfl rfl (by kernel_rfl) (by rfl) (fun _ => by go_simp; with_reducible rfl) (by simp only [Act.put, List.setIfInBounds_toArray, List.set_cons_zero, List.set_cons_succ]; rfl) ?_
        refine takeI 3 (some 14) HT_ HW_ rfl rfl (by kernel_rfl) (by rfl) (by rintro w' ⟨s0, s1, s2⟩; go_simp; with_reducible rfl) hHeld (by simp only [Act.put, List.setIfInBounds_toArray, List.set_cons_zero, List.set_cons_succ]; rfl) ?_
        refine takeI 7 (some 18) HT_ HW_ rfl rfl (by kernel_rfl) (by rfl) (by rintro w' ⟨s0, s1, s2⟩; go_simp; with_reducible rfl) hHeld (by simp only [Act.put, List.setIfInBounds_toArray, List.set_cons_zero, List.set_cons_succ]; rfl) ?_
        refine takeI 11 (some 22) HT_ HW_ rfl rfl (by kernel_rfl) (by rfl) (by rintro w' ⟨s0, s1, s2⟩; go_simp; with_reducible rfl) hHeld (by simp only [Act.put, List.setIfInBounds_toArray, List.set_cons_zero, List.set_cons_succ]; rfl) ?_
        refine pureI 12 (some 23) HT_ rfl rfl (by kernel_rfl) (by rfl) (fun _ => by go_simp; with_reducible rfl) (by simp only [Act.put, List.setIfInBounds_toArray, List.set_cons_zero, List.set_cons_succ]; rfl) ?_
        refine takeI 16 (some 27) HT_ HW_ rfl rfl (by kernel_rfl) (by rfl) (by rintro w' ⟨s0, s1, s2⟩; go_simp; with_reducible rfl) hHeld (by simp only [Act.put, List.setIfInBounds_toArray, List.set_cons_zero, List.set_cons_succ]; rfl) ?_
        refine pureI 18 (some 29) HT_ rfl rfl (by kernel_rfl) (by rfl) (fun _ => by go_simp; with_reducible rfl) (by simp only [Act.put, List.setIfInBounds_toArray, List.set_cons_zero, List.set_cons_succ]; rfl) ?_
        refine pureI 19 (some 30) HT_ rfl rfl (by kernel_rfl) (by rfl) (fun _ => by go_simp; with_reducible rfl) (by simp only [Act.put, List.setIfInBounds_toArray, List.set_cons_zero, List.set_cons_succ]; rfl) ?_
        refine pureI 20 (some 31) HT_ rfl rfl (by kernel_rfl) (by rfl) (fun _ => by go_simp; with_reducible rfl) (by simp only [Act.put, List.setIfInBounds_toArray, List.set_cons_zero, List.set_cons_succ]; rfl) ?_
        refine pureI 21 (some 6) HT_ rfl rfl (by kernel_rfl) (by rfl) (fun _ => by go_simp; with_reducible rfl) (by simp only [Act.put, List.setIfInBounds_toArray, List.set_cons_zero, List.set_cons_succ]; rfl) ?_
        refine done_ (done_of HT_.out (by kernel_rfl)) ?_
        have H4 := Aside0.mk hHeld
        clear hHeld
        go_wp2
        go_roundg 1
        case measure => omega
        case rel => exact ⟨1, rfl, rfl, ⟨HN.out⟩, ⟨H4.out.2.2⟩⟩
    · obtain rfl : gk = 1 := by omega
      replace HU := Aside0.mk (show res = sg1 l from HU.out)
      have hx : s.extract pre.length (pre.length + min l.length 1) = bl (l.take 1) := HX.out 1
      have hxs : (bl (l.take 1)).size = min l.length 1 := by rw [bl_size, List.length_take, Nat.min_comm]
      have HK := Aside0.mk (HC.out 1)
      obtain ⟨x, hgx⟩ : ∃ x, bl (l.take 1) = x := ⟨_, rfl⟩
      rw [hgx] at hx hxs HK
      have HG := Aside0.mk hgx
      clear hgx
      have m1 : IntKind.i64.wrap ((pre.length : Int) + 1) = (pre.length : Int) + 1 := by rw [i64_w]; unfold wrap64; omega
      have hS4 := (show (fun w' => w'.cell? ⟨g, 0, none⟩ = some (.string s) ∧ w'.cell? ⟨g, 1, none⟩ = some (.int .i64 (pre.length : Int)) ∧ Below (w.heap.size + 1) (w.alloc (.cells ZTk 45)) w') (wr.drew) from ⟨(blk_cell (blk_drew S0.out.1) 0).trans rfl, (blk_cell (blk_drew S0.out.1) 1).trans rfl, HW.out.drew⟩)
      by_cases hn : 1 ≤ l.length
      · have m2 : min ((pre.length : Int) + (l.length : Int)) ((pre.length : Int) + 1) = (pre.length : Int) + 1 := by omega
        have e1 : s.extract pre.length (pre.length + 1) = x := by rw [Nat.min_eq_right hn] at hx; exact hx
        have e2 : x.size = 1 := by rw [hxs]; omega
        have z1 : (pre.length : Int) ≤ (pre.length : Int) + 1 := by omega
        have z2 : (pre.length : Int) + 1 ≤ (pre.length : Int) + (l.length : Int) := by omega
        have z3 : ((pre.length : Int) + 1).toNat = pre.length + 1 := by omega
        clear hx hxs
        have hlt : (l.take 1).length = 1 := by rw [List.length_take]; omega
        have hcon : Lib.contains SIGN (32 :: (l.take 1 ++ [32])) = sgs1.contains (l.take 1) := by
          match l, hn with
          | a :: q, _ => exact sig_one a
        rw [hcon] at HK
        cases hcc : sgs1.contains (l.take 1) with
        | true =>
          have HN := Aside0.mk (show res = (tkO (l.take 1), 1, 0) by rw [HU.out]; unfold sg1; rw [if_pos hcc])
          rw [hcc] at HK
          clear hcon
          go_wp2_with (first
          | ((with_reducible refine gate_dst (N := 10) rfl ?_); (refine wpVal 10 rfl rfl (v := .int .i64 1) (by kernel_rfl) ?_)))
          refine start_ (n := 22) (S := fun w' => w'.cell? ⟨g, 0, none⟩ = some (.string s) ∧ w'.cell? ⟨g, 1, none⟩ = some (.int .i64 (pre.length : Int)) ∧ Below (w.heap.size + 1) (w.alloc (.cells ZTk 45)) w') (ds := []) #[false, false, false, false, false, false, false, false, false, false, false, false, false, false, false, false, false, false, false, false, false, false] (by kernel_rfl) rfl rfl hS4 (fun hHeld => ?_)
          refine with_tabW lsgn4.tab4 lsgn4.bits4 (fun HT_ HW_ => ?_)
          refine pureI 0 (some 11) HT_ rfl rfl (by kernel_rfl) (by rfl) (fun _ => by go_simp; with_reducible rfl) (by simp only [Act.put, List.setIfInBounds_toArray, List.set_cons_zero, List.set_cons_succ]; rfl) ?_
          refine pureI 1 (some 12) HT_ rfl rfl (by kernel_rfl) (by rfl) (fun _ => by go_simp; with_reducible rfl) (by simp only [Act.put, List.setIfInBounds_toArray, List.set_cons_zero, List.set_cons_succ]; rfl) ?_
          refine pureI 2 (some 13) HT_ rfl rfl (by kernel_rfl) (by rfl) (fun _ => by go_simp; with_reducible rfl) (by simp only [Act.put, List.setIfInBounds_toArray, List.set_cons_zero, List.set_cons_succ]; rfl) ?_
          refine pureI 4 (some 15) HT_ rfl rfl (by kernel_rfl) (by rfl) (fun _ => by go_simp; with_reducible rfl) (by simp only [Act.put, List.setIfInBounds_toArray, List.set_cons_zero, List.set_cons_succ]; rfl) ?_
          refine pureI 5 (some 16) HT_ rfl rfl (by kernel_rfl) (by rfl) (fun _ => by go_simp; with_reducible rfl) (by simp only [Act.put, List.setIfInBounds_toArray, List.set_cons_zero, List.set_cons_succ]; rfl) ?_
          refine pureI 6 (some 17) HT_ rfl rfl (by kernel_rfl) (by rfl) (fun _ => by go_simp; with_reducible rfl) (by simp only [Act.put, List.setIfInBounds_toArray, List.set_cons_zero, List.set_cons_succ]; rfl) ?_
          refine pureI 8 (some 19) HT_ rfl rfl (by kernel_rfl) (by rfl) (fun _ => by go_simp; with_reducible rfl) (by simp only [Act.put, List.setIfInBounds_toArray, List.set_cons_zero, List.set_cons_succ]; rfl) ?_
          refine pureI 9 (some 20) HT_ rfl rfl (by kernel_rfl) (by rfl) (fun _ => by go_simp; with_reducible rfl) (by simp only [Act.put, List.setIfInBounds_toArray, List.set_cons_zero, List.set_cons_succ]; rfl) ?_
          refine pureI 10 (some 21) HT_ rfl rfl (by kernel_rfl) (by rfl) (fun _ => by go_simp; with_reducible rfl) (by simp only [Act.put, List.setIfInBounds_toArray, List.set_cons_zero, List.set_cons_succ]; rfl) ?_
          refine pureI 13 (some 24) HT_ rfl rfl (by kernel_rfl) (by rfl) (fun _ => by go_simp; with_reducible rfl) (by simp only [Act.put, List.setIfInBounds_toArray, List.set_cons_zero, List.set_cons_succ]; rfl) ?_
          refine pureI 14 (some 25) HT_ rfl rfl (by kernel_rfl) (by rfl) (fun _ => by go_simp; with_reducible rfl) (by simp only [Act.put, List.setIfInBounds_toArray, List.set_cons_zero, List.set_cons_succ]; rfl) ?_
          refine pureI 15 (some 26) HT_ rfl rfl (by kernel_rfl) (by rfl) (fun _ => by go_simp; with_reducible rfl) (by simp only [Act.put, List.setIfInBounds_toArray, List.set_cons_zero, List.set_cons_succ]; rfl) ?_
          refine pureI 17 (some 28) HT_ rfl rfl (by kernel_rfl) (by rfl) (fun _ => by go_simp; with_reducible rfl) (by simp only [Act.put, List.setIfInBounds_toArray, List.set_cons_zero, List.set_cons_succ]; rfl) ?_
          refine takeI 3 (some 14) HT_ HW_ rfl rfl (by kernel_rfl) (by rfl) (by rintro w' ⟨s0, s1, s2⟩; go_simp; with_reducible rfl) hHeld (by simp only [Act.put, List.setIfInBounds_toArray, List.set_cons_zero, List.set_cons_succ]; rfl) ?_
          refine takeI 7 (some 18) HT_ HW_ rfl rfl (by kernel_rfl) (by rfl) (by rintro w' ⟨s0, s1, s2⟩; go_simp; with_reducible rfl) hHeld (by simp only [Act.put, List.setIfInBounds_toArray, List.set_cons_zero, List.set_cons_succ]; rfl) ?_
          refine takeI 11 (some 22) HT_ HW_ rfl rfl (by kernel_rfl) (by rfl) (by rintro w' ⟨s0, s1, s2⟩; go_simp; with_reducible rfl) hHeld (by simp only [Act.put, List.setIfInBounds_toArray, List.set_cons_zero, List.set_cons_succ]; rfl) ?_
          refine pureI 12 (some 23) HT_ rfl rfl (by kernel_rfl) (by rfl) (fun _ => by go_simp; with_reducible rfl) (by simp only [Act.put, List.setIfInBounds_toArray, List.set_cons_zero, List.set_cons_succ]; rfl) ?_
          refine takeI 16 (some 27) HT_ HW_ rfl rfl (by kernel_rfl) (by rfl) (by rintro w' ⟨s0, s1, s2⟩; go_simp; with_reducible rfl) hHeld (by simp only [Act.put, List.setIfInBounds_toArray, List.set_cons_zero, List.set_cons_succ]; rfl) ?_
          refine pureI 18 (some 29) HT_ rfl rfl (by kernel_rfl) (by rfl) (fun _ => by go_simp; with_reducible rfl) (by simp only [Act.put, List.setIfInBounds_toArray, List.set_cons_zero, List.set_cons_succ]; rfl) ?_
          refine pureI 19 (some 30) HT_ rfl rfl (by kernel_rfl) (by rfl) (fun _ => by go_simp; with_reducible rfl) (by simp only [Act.put, List.setIfInBounds_toArray, List.set_cons_zero, List.set_cons_succ]; rfl) ?_
          refine pureI 20 (some 31) HT_ rfl rfl (by kernel_rfl) (by rfl) (fun _ => by go_simp; with_reducible rfl) (by simp only [Act.put, List.setIfInBounds_toArray, List.set_cons_zero, List.set_cons_succ]; rfl) ?_
          refine pureI 21 (some 6) HT_ rfl rfl (by kernel_rfl) (by rfl) (fun _ => by go_simp; with_reducible rfl) (by simp only [Act.put, List.setIfInBounds_toArray, List.set_cons_zero, List.set_cons_succ]; rfl) ?_
          refine done_ (done_of HT_.out (by kernel_rfl)) ?_
          have H4 := Aside0.mk hHeld
          clear hHeld
          go_wp2_with (first
            | (go_at_call 45; refine (HK.out _ ((bel1 w _).trans (H4.out.2.2.mono (by omega)))).mono ?_; rintro e w3 ⟨rfl, hb⟩; have W3 := Aside0.mk (H4.out.2.2.trans (hb.mono (by have h := H4.out.2.2.size; rw [World.size_alloc] at h; exact h))); clear hb)
            | ((with_reducible refine gate_store (t := 45) (p := 2) (v := .tmp 43) rfl ?_); refine wpRowSt rfl 45 (.tmp 2) (.tmp 43) rfl (w.heap.size) (TkA ⟨4, vlZ, ceZ, x, 0⟩) rfl rfl 45 _ ((W3.out.block _ (by omega)).trans (newBlk w _)) (by kernel_rfl) rfl rfl ?_))
          refine bodyPost_ret (results_ct rfl _ _ (w.heap.size) 45 (TkA ⟨4, vlZ, ceZ, x, 0⟩) (0, 0) _ rfl (setRow_heap _ _ _ _ _ _ ((W3.out.block _ (by omega)).trans (newBlk w _))) Tryz.underlying45 rfl (by kernel_rfl)) rfl ?_
          have B7 := (bel1 w _).trans (W3.out.mono (by omega : w.heap.size ≤ w.heap.size + 1))
          have S7 : IsSc w0 w3 g s (pre.length : Int) 0 := ⟨(W3.out.block g (by omega)).trans (blk_alloc HI.out.1 _), HI.out.2⟩
          refine ⟨_, _, rfl, fun h => ?_, ?_, ?_, ?_⟩
          · rw [HN.out]; exact ⟨by show (⟨4, vlZ, ceZ, x, 0⟩ : Tk) = tkO (l.take 1); rw [← HG.out]; rfl, rfl⟩
          · rw [HN.out]; exact ⟨rowOther _ S7.1 hne2, HI.out.2⟩
          · exact rowBelow (low HB.out B7) HB.out.size _
          · exact keepRow (KeepBut.of_below B7 g none) (Nat.le_refl _) _
        | false =>
          have HN := Aside0.mk (show res = sg0 l by rw [HU.out]; unfold sg1; rw [if_neg (by rw [hcc]; simp)])
          rw [hcc] at HK
          clear hcon
          go_wp2_with (first
          | ((with_reducible refine gate_dst (N := 10) rfl ?_); (refine wpVal 10 rfl rfl (v := .int .i64 1) (by kernel_rfl) ?_)))
          refine start_ (n := 22) (S := fun w' => w'.cell? ⟨g, 0, none⟩ = some (.string s) ∧ w'.cell? ⟨g, 1, none⟩ = some (.int .i64 (pre.length : Int)) ∧ Below (w.heap.size + 1) (w.alloc (.cells ZTk 45)) w') (ds := []) #[false, false, false, false, false, false, false, false, false, false, false, false, false, false, false, false, false, false, false, false, false, false] (by kernel_rfl) rfl rfl hS4 (fun hHeld => ?_)
          refine with_tabW lsgn4.tab4 lsgn4.bits4 (fun HT_ HW_ => ?_)
          refine pureI 0 (some 11) HT_ rfl rfl (by kernel_rfl) (by rfl) (fun _ => by go_simp; with_reducible rfl) (by simp only [Act.put, List.setIfInBounds_toArray, List.set_cons_zero, List.set_cons_succ]; rfl) ?_
          refine pureI 1 (some 12) HT_ rfl rfl (by kernel_rfl) (by rfl) (fun _ => by go_simp; with_reducible rfl) (by simp only [Act.put, List.setIfInBounds_toArray, List.set_cons_zero, List.set_cons_succ]; rfl) ?_
          refine pureI 2 (some 13) HT_ rfl rfl (by kernel_rfl) (by rfl) (fun _ => by go_simp; with_reducible rfl) (by simp only [Act.put, List.setIfInBounds_toArray, List.set_cons_zero, List.set_cons_succ]; rfl) ?_
          refine pureI 4 (some 15) HT_ rfl rfl (by kernel_rfl) (by rfl) (fun _ => by go_simp; with_reducible rfl) (by simp only [Act.put, List.setIfInBounds_toArray, List.set_cons_zero, List.set_cons_succ]; rfl) ?_
          refine pureI 5 (some 16) HT_ rfl rfl (by kernel_rfl) (by rfl) (fun _ => by go_simp; with_reducible rfl) (by simp only [Act.put, List.setIfInBounds_toArray, List.set_cons_zero, List.set_cons_succ]; rfl) ?_
          refine pureI 6 (some 17) HT_ rfl rfl (by kernel_rfl) (by rfl) (fun _ => by go_simp; with_reducible rfl) (by simp only [Act.put, List.setIfInBounds_toArray, List.set_cons_zero, List.set_cons_succ]; rfl) ?_
          refine pureI 8 (some 19) HT_ rfl rfl (by kernel_rfl) (by rfl) (fun _ => by go_simp; with_reducible rfl) (by simp only [Act.put, List.setIfInBounds_toArray, List.set_cons_zero, List.set_cons_succ]; rfl) ?_
          refine pureI 9 (some 20) HT_ rfl rfl (by kernel_rfl) (by rfl) (fun _ => by go_simp; with_reducible rfl) (by simp only [Act.put, List.setIfInBounds_toArray, List.set_cons_zero, List.set_cons_succ]; rfl) ?_
          refine pureI 10 (some 21) HT_ rfl rfl (by kernel_rfl) (by rfl) (fun _ => by go_simp; with_reducible rfl) (by simp only [Act.put, List.setIfInBounds_toArray, List.set_cons_zero, List.set_cons_succ]; rfl) ?_
          refine pureI 13 (some 24) HT_ rfl rfl (by kernel_rfl) (by rfl) (fun _ => by go_simp; with_reducible rfl) (by simp only [Act.put, List.setIfInBounds_toArray, List.set_cons_zero, List.set_cons_succ]; rfl) ?_
          refine pureI 14 (some 25) HT_ rfl rfl (by kernel_rfl) (by rfl) (fun _ => by go_simp; with_reducible rfl) (by simp only [Act.put, List.setIfInBounds_toArray, List.set_cons_zero, List.set_cons_succ]; rfl) ?_
          refine pureI 15 (some 26) HT_ rfl rfl (by kernel_rfl) (by rfl) (fun _ => by go_simp; with_reducible rfl) (by simp only [Act.put, List.setIfInBounds_toArray, List.set_cons_zero, List.set_cons_succ]; rfl) ?_
          refine pureI 17 (some 28) HT_ rfl rfl (by kernel_rfl) (by rfl) (fun _ => by go_simp; with_reducible rfl) (by simp only [Act.put, List.setIfInBounds_toArray, List.set_cons_zero, List.set_cons_succ]; rfl) ?_
          refine takeI 3 (some 14) HT_ HW_ rfl rfl (by kernel_rfl) (by rfl) (by rintro w' ⟨s0, s1, s2⟩; go_simp; with_reducible rfl) hHeld (by simp only [Act.put, List.setIfInBounds_toArray, List.set_cons_zero, List.set_cons_succ]; rfl) ?_
          refine takeI 7 (some 18) HT_ HW_ rfl rfl (by kernel_rfl) (by rfl) (by rintro w' ⟨s0, s1, s2⟩; go_simp; with_reducible rfl) hHeld (by simp only [Act.put, List.setIfInBounds_toArray, List.set_cons_zero, List.set_cons_succ]; rfl) ?_
          refine takeI 11 (some 22) HT_ HW_ rfl rfl (by kernel_rfl) (by rfl) (by rintro w' ⟨s0, s1, s2⟩; go_simp; with_reducible rfl) hHeld (by simp only [Act.put, List.setIfInBounds_toArray, List.set_cons_zero, List.set_cons_succ]; rfl) ?_
          refine pureI 12 (some 23) HT_ rfl rfl (by kernel_rfl) (by rfl) (fun _ => by go_simp; with_reducible rfl) (by simp only [Act.put, List.setIfInBounds_toArray, List.set_cons_zero, List.set_cons_succ]; rfl) ?_
          refine takeI 16 (some 27) HT_ HW_ rfl rfl (by kernel_rfl) (by rfl) (by rintro w' ⟨s0, s1, s2⟩; go_simp; with_reducible rfl) hHeld (by simp only [Act.put, List.setIfInBounds_toArray, List.set_cons_zero, List.set_cons_succ]; rfl) ?_
          refine pureI 18 (some 29) HT_ rfl rfl (by kernel_rfl) (by rfl) (fun _ => by go_simp; with_reducible rfl) (by simp only [Act.put, List.setIfInBounds_toArray, List.set_cons_zero, List.set_cons_succ]; rfl) ?_
          refine pureI 19 (some 30) HT_ rfl rfl (by kernel_rfl) (by rfl) (fun _ => by go_simp; with_reducible rfl) (by simp only [Act.put, List.setIfInBounds_toArray, List.set_cons_zero, List.set_cons_succ]; rfl) ?_
          refine pureI 20 (some 31) HT_ rfl rfl (by kernel_rfl) (by rfl) (fun _ => by go_simp; with_reducible rfl) (by simp only [Act.put, List.setIfInBounds_toArray, List.set_cons_zero, List.set_cons_succ]; rfl) ?_
          refine pureI 21 (some 6) HT_ rfl rfl (by kernel_rfl) (by rfl) (fun _ => by go_simp; with_reducible rfl) (by simp only [Act.put, List.setIfInBounds_toArray, List.set_cons_zero, List.set_cons_succ]; rfl) ?_
          refine done_ (done_of HT_.out (by kernel_rfl)) ?_
          have H4 := Aside0.mk hHeld
          clear hHeld
          go_wp2_with (first
            | (go_at_call 45; refine (HK.out _ ((bel1 w _).trans (H4.out.2.2.mono (by omega)))).mono ?_; rintro e w3 ⟨rfl, hb⟩; have W3 := Aside0.mk (H4.out.2.2.trans (hb.mono (by have h := H4.out.2.2.size; rw [World.size_alloc] at h; exact h))); clear hb))
          go_roundg 0
          case measure => omega
          case rel => exact ⟨2, rfl, rfl, ⟨HN.out⟩, ⟨W3.out⟩⟩
      · skip
        have m2 : min ((pre.length : Int) + (l.length : Int)) ((pre.length : Int) + 1) = (pre.length : Int) + (l.length : Int) := by omega
        have e1 : s.extract pre.length (pre.length + l.length) = x := by rw [Nat.min_eq_left (by omega)] at hx; exact hx
        have e2 : x.size = l.length := by rw [hxs]; omega
        have z1 : (pre.length : Int) ≤ (pre.length : Int) + (l.length : Int) := by omega
        have z3 : ((pre.length : Int) + (l.length : Int)).toNat = pre.length + l.length := by omega
        have z4 : ((l.length : Int) == 1) = false := beq_eq_false_iff_ne.2 (by omega)
        clear hx hxs
        have HN := Aside0.mk (show res = sg0 l by
          rw [HU.out]
          unfold sg1
          rw [if_neg]
          intro hm
          have h1 := (show ∀ g ∈ sgs1, g.length = 1 by decide) _ (List.contains_iff_mem.1 hm)
          rw [List.length_take] at h1
          omega)
        go_wp2_with (first
          | ((with_reducible refine gate_dst (N := 10) rfl ?_); (refine wpVal 10 rfl rfl (v := .int .i64 1) (by kernel_rfl) ?_)))
        refine start_ (n := 22) (S := fun w' => w'.cell? ⟨g, 0, none⟩ = some (.string s) ∧ w'.cell? ⟨g, 1, none⟩ = some (.int .i64 (pre.length : Int)) ∧ Below (w.heap.size + 1) (w.alloc (.cells ZTk 45)) w') (ds := []) #[false, false, false, false, false, false, false, false, false, false, false, false, false, false, false, false, false, false, false, false, false, false] (by kernel_rfl) rfl rfl hS4 (fun hHeld => ?_)
        refine with_tabW lsgn4.tab4 lsgn4.bits4 (fun HT_ HW_ => ?_)
        refine pureI 0 (some 11) HT_ rfl rfl (by kernel_rfl) (by rfl) (fun _ => by go_simp; with_reducible rfl) (by simp only [Act.put, List.setIfInBounds_toArray, List.set_cons_zero, List.set_cons_succ]; rfl) ?_
        refine pureI 1 (some 12) HT_ rfl rfl (by kernel_rfl) (by rfl) (fun _ => by go_simp; with_reducible rfl) (by simp only [Act.put, List.setIfInBounds_toArray, List.set_cons_zero, List.set_cons_succ]; rfl) ?_
        refine pureI 2 (some 13) HT_ rfl rfl (by kernel_rfl) (by rfl) (fun _ => by go_simp; with_reducible rfl) (by simp only [Act.put, List.setIfInBounds_toArray, List.set_cons_zero, List.set_cons_succ]; rfl) ?_
        refine pureI 4 (some 15) HT_ rfl rfl (by kernel_rfl) (by rfl) (fun _ => by go_simp; with_reducible rfl) (by simp only [Act.put, List.setIfInBounds_toArray, List.set_cons_zero, List.set_cons_succ]; rfl) ?_
        refine pureI 5 (some 16) HT_ rfl rfl (by kernel_rfl) (by rfl) (fun _ => by go_simp; with_reducible rfl) (by simp only [Act.put, List.setIfInBounds_toArray, List.set_cons_zero, List.set_cons_succ]; rfl) ?_
        refine pureI 6 (some 17) HT_ rfl rfl (by kernel_rfl) (by rfl) (fun _ => by go_simp; with_reducible rfl) (by simp only [Act.put, List.setIfInBounds_toArray, List.set_cons_zero, List.set_cons_succ]; rfl) ?_
        refine pureI 8 (some 19) HT_ rfl rfl (by kernel_rfl) (by rfl) (fun _ => by go_simp; with_reducible rfl) (by simp only [Act.put, List.setIfInBounds_toArray, List.set_cons_zero, List.set_cons_succ]; rfl) ?_
        refine pureI 9 (some 20) HT_ rfl rfl (by kernel_rfl) (by rfl) (fun _ => by go_simp; with_reducible rfl) (by simp only [Act.put, List.setIfInBounds_toArray, List.set_cons_zero, List.set_cons_succ]; rfl) ?_
        refine pureI 10 (some 21) HT_ rfl rfl (by kernel_rfl) (by rfl) (fun _ => by go_simp; with_reducible rfl) (by simp only [Act.put, List.setIfInBounds_toArray, List.set_cons_zero, List.set_cons_succ]; rfl) ?_
        refine pureI 13 (some 24) HT_ rfl rfl (by kernel_rfl) (by rfl) (fun _ => by go_simp; with_reducible rfl) (by simp only [Act.put, List.setIfInBounds_toArray, List.set_cons_zero, List.set_cons_succ]; rfl) ?_
        refine pureI 14 (some 25) HT_ rfl rfl (by kernel_rfl) (by rfl) (fun _ => by go_simp; with_reducible rfl) (by simp only [Act.put, List.setIfInBounds_toArray, List.set_cons_zero, List.set_cons_succ]; rfl) ?_
        refine pureI 15 (some 26) HT_ rfl rfl (by kernel_rfl) (by rfl) (fun _ => by go_simp; with_reducible rfl) (by simp only [Act.put, List.setIfInBounds_toArray, List.set_cons_zero, List.set_cons_succ]; rfl) ?_
        refine pureI 17 (some 28) HT_ rfl rfl (by kernel_rfl) (by rfl) (fun _ => by go_simp; with_reducible rfl) (by simp only [Act.put, List.setIfInBounds_toArray, List.set_cons_zero, List.set_cons_succ]; rfl) ?_
        refine takeI 3 (some 14) HT_ HW_ rfl rfl (by kernel_rfl) (by rfl) (by rintro w' ⟨s0, s1, s2⟩; go_simp; with_reducible rfl) hHeld (by simp only [Act.put, List.setIfInBounds_toArray, List.set_cons_zero, List.set_cons_succ]; rfl) ?_
        refine takeI 7 (some 18) HT_ HW_ rfl rfl (by kernel_rfl) (by rfl) (by rintro w' ⟨s0, s1, s2⟩; go_simp; with_reducible rfl) hHeld (by simp only [Act.put, List.setIfInBounds_toArray, List.set_cons_zero, List.set_cons_succ]; rfl) ?_
        refine takeI 11 (some 22) HT_ HW_ rfl rfl (by kernel_rfl) (by rfl) (by rintro w' ⟨s0, s1, s2⟩; go_simp; with_reducible rfl) hHeld (by simp only [Act.put, List.setIfInBounds_toArray, List.set_cons_zero, List.set_cons_succ]; rfl) ?_
        refine pureI 12 (some 23) HT_ rfl rfl (by kernel_rfl) (by rfl) (fun _ => by go_simp; with_reducible rfl) (by simp only [Act.put, List.setIfInBounds_toArray, List.set_cons_zero, List.set_cons_succ]; rfl) ?_
        refine takeI 16 (some 27) HT_ HW_ rfl rfl (by kernel_rfl) (by rfl) (by rintro w' ⟨s0, s1, s2⟩; go_simp; with_reducible rfl) hHeld (by simp only [Act.put, List.setIfInBounds_toArray, List.set_cons_zero, List.set_cons_succ]; rfl) ?_
        refine pureI 18 (some 29) HT_ rfl rfl (by kernel_rfl) (by rfl) (fun _ => by go_simp; with_reducible rfl) (by simp only [Act.put, List.setIfInBounds_toArray, List.set_cons_zero, List.set_cons_succ]; rfl) ?_
        refine pureI 19 (some 30) HT_ rfl rfl (by kernel_rfl) (by rfl) (fun _ => by go_simp; with_reducible rfl) (by simp only [Act.put, List.setIfInBounds_toArray, List.set_cons_zero, List.set_cons_succ]; rfl) ?_
        refine pureI 20 (some 31) HT_ rfl rfl (by kernel_rfl) (by rfl) (fun _ => by go_simp; with_reducible rfl) (by simp only [Act.put, List.setIfInBounds_toArray, List.set_cons_zero, List.set_cons_succ]; rfl) ?_
        refine pureI 21 (some 6) HT_ rfl rfl (by kernel_rfl) (by rfl) (fun _ => by go_simp; with_reducible rfl) (by simp only [Act.put, List.setIfInBounds_toArray, List.set_cons_zero, List.set_cons_succ]; rfl) ?_
        refine done_ (done_of HT_.out (by kernel_rfl)) ?_
        have H4 := Aside0.mk hHeld
        clear hHeld
        go_wp2
        go_roundg 0
        case measure => omega
        case rel => exact ⟨2, rfl, rfl, ⟨HN.out⟩, ⟨H4.out.2.2⟩⟩
    · obtain rfl : gk = 0 := by omega
      have HN := Aside0.mk (show res = (tkZ, 0, 5) from HU.out)
      have hc := fun i => blk_cell S0.out.1 i
      have hf := fun i => blk_frozen S0.out.1 i
      go_wp2_with (first
        | ((with_reducible refine gate_store (t := 45) (p := 2) (v := .tmp 49) rfl ?_); refine wpRowSt rfl 45 (.tmp 2) (.tmp 49) rfl (w.heap.size) (TkA tkZ) rfl rfl 45 _ (blk_far (p := ⟨g, 2, none⟩) T0.out hne1 _) (by kernel_rfl) rfl rfl ?_))
      refine bodyPost_ret (results_ct rfl _ _ (w.heap.size) 45 (TkA tkZ) (0, 0) _ rfl (setRow_heap _ _ _ _ _ _ (blk_far (p := ⟨g, 2, none⟩) T0.out hne1 _)) Tryz.underlying45 rfl (by kernel_rfl)) rfl ?_
      refine ⟨_, _, rfl, fun h => ?_, ?_, ?_, ?_⟩
      · rw [HN.out] at h; cases h
      · rw [HN.out]; exact ⟨rowOther _ (blk_put S0.out.1 2 _ rfl) hne2, HI.out.2⟩
      · exact rowBelow ((low HB.out B0.out).setCell (p := ⟨g, 2, none⟩) HI.out.2 _) HB.out.size _
      · exact keepRow ((KeepBut.of_below B0.out g none).set_ 2 _) (Nat.le_refl _) _
end Go.Proofs.YtmppnobldhhpjaaGreatDoor.Pr
end
