/-
  What the law RewriteMoves leans on, out of the texts that were printed and written for this seat: only what its proof mentions (gathered by a program of the author's).
-/
import Derived.Test.YthnldbclbfpojaaGreatDoorSRewriteMoves5
import Derived.Test.YthnldbclbfpojaaGreatDoorSRewriteMoves12
import Derived.Test.YthnldbclbfpojaaGreatDoorSRewriteMoves14
import Derived.Test.YthnldbclbfpojaaGreatDoorSRewriteMoves11
set_option maxHeartbeats 8000000
set_option maxRecDepth 100000
set_option linter.unusedVariables false
set_option linter.unusedSimpArgs false
section
namespace Go.Proofs.YthnldbclbfpojaaGreatDoor.Pr
open Go.RowKit Go.Proofs.YthnldbclbfpojaaGreatDoorW.PrintWords Go.Proofs.YthnldbclbfpojaaGreatDoorW.PrintLast Go.Proofs.YthnldbclbfpojaaGreatDoorW.PrintMore
attribute [local go_sem] max2_int min2_int max_two min_two max_three min_three max_four min_four   -- for this text's walks alone
def foolscapref06_ends.j0 : Nat → Int → Int → Int → Int → Int → Int → Int → Option (Int × Int × Bool)
 | 0, _, _, _, _, _, _, _ => none
 | k + 1, x1, x2, x9, x10, x163000, x163001, x163002 => if x10 = 2 then (some (0, 0, false)) else ((foolscapref06_line.f k x163000 x163001 x163002 x2).bind fun bt167 => (if bt167.2 = 1 then (some (x9, wrap64 (x163001 - 1), true)) else (if bt167.2 = 2 then ((foolscapref06_most.f x163000 x163001 x163002).bind fun t169 => (if x1 < x163001 then ((foolscapref06_most.f x163000 x163001 x163002).bind fun t170 => (if (wrap64 (x163001 + x163002)) > t170 then (some (x9, wrap64 (x163001 - 1), true)) else (some (x9, t169, true)))) else (some (x9, t169, true)))) else (some (x9, bt167.1, true)))))
def foolscapref06_ends.f (k : Nat) (a0_0 : Int) (a0_1 : Int) (a0_2 : Int) (a1 : Int) (a2 : Int) : Option (Int × Int × Bool) := (foolscapref06_line.f k a0_0 a0_1 a0_2 a1).bind fun bt163 => (if bt163.2 = 1 then (if a2 < (wrap64 (a0_1 + a0_2)) then (some (0, 0, false)) else ((foolscapref06_line.f k a0_0 a0_1 a0_2 (wrap64 (a0_1 + a0_2))).bind fun bt165 => (foolscapref06_ends.j0 k a1 a2 bt165.1 bt165.2 a0_0 a0_1 a0_2))) else (foolscapref06_ends.j0 k a1 a2 bt163.1 bt163.2 a0_0 a0_1 a0_2))
def foolscapref06_ends.T14 : Bool × List (List Nat × List Nat) := (true, [([], []), ([], []), ([1], [1]), ([0, 2], [0, 2]), ([3], [3]), ([4], [4]), ([5, 4], [4, 5]), ([4], [4]), ([7, 4], [4, 7]), ([6, 8, 4], [4, 6, 8]), ([4], [4]), ([10, 4, 4], [4, 10]), ([9, 11, 4], [4, 9, 11]), ([4, 12], [4, 12])])
def foolscapref06_ends.B14 : List Nat := [0, 0, 2, 7, 15, 31, 63, 31, 159, 511, 31, 1055, 4095, 8191]
theorem foolscapref06_ends.tab14 : rtab .any (opsOf Tryz.f119 14) = foolscapref06_ends.T14 := by kernel_rfl
theorem foolscapref06_ends.bits14 : waitsOk foolscapref06_ends.T14.2 foolscapref06_ends.B14 = true := by kernel_rfl
theorem foolscapref06_ends.calls (k : Nat) (a0_0 : Int) (a0_1 : Int) (a0_2 : Int) (a1 : Int) (a2 : Int) (r1 : Int) (r2 : Int) (r3 : Bool) (w : World) (h : foolscapref06_ends.f k a0_0 a0_1 a0_2 a1 a2 = some (r1, r2, r3)) :
  Calls Tryz.prog 119 #[.agg #[.int .i64 a0_0, .int .i64 a0_1, .int .i64 a0_2], .int .i64 a1, .int .i64 a2] w fun e w' => e = .returned (.tuple #[.int .i64 r1, .int .i64 r2, .bool r3]) ∧ Below w.heap.size w w' := by
 have hu47 := Tryz.underlying47
 have HB := Aside0.mk (Below.refl w.heap.size w)
 have H : ((foolscapref06_line.f k a0_0 a0_1 a0_2 a1).bind fun bt163 => (if bt163.2 = 1 then (if a2 < (wrap64 (a0_1 + a0_2)) then (some (0, 0, false)) else ((foolscapref06_line.f k a0_0 a0_1 a0_2 (wrap64 (a0_1 + a0_2))).bind fun bt165 => (foolscapref06_ends.j0 k a1 a2 bt165.1 bt165.2 a0_0 a0_1 a0_2))) else (foolscapref06_ends.j0 k a1 a2 bt163.1 bt163.2 a0_0 a0_1 a0_2))) = some (r1, r2, r3) := h
 clear h
 replace H := Option.bind_eq_some_iff.mp H
 obtain ⟨⟨t163, t164⟩, A40, H⟩ := H
 replace H : (if t164 = 1 then (if a2 < (wrap64 (a0_1 + a0_2)) then (some (0, 0, false)) else ((foolscapref06_line.f k a0_0 a0_1 a0_2 (wrap64 (a0_1 + a0_2))).bind fun bt165 => (foolscapref06_ends.j0 k a1 a2 bt165.1 bt165.2 a0_0 a0_1 a0_2))) else (foolscapref06_ends.j0 k a1 a2 t163 t164 a0_0 a0_1 a0_2)) = some (r1, r2, r3) := H
 have A4 := Aside0.mk A40
 clear A40
 have HC5 := Aside0.mk H
 clear H
 go_enter Tryz.func119, Tryz.ntmps119
 go_upto_if 19 with (first | ((with_reducible refine gate_dst (N := 3) rfl ?_); refine boxE 3 47 (#[.int .i64 a0_0, .int .i64 a0_1, .int .i64 a0_2]) ?_; intro gb162 hg w6 hbox hb; have n0_ := Aside0.mk (below_step (hbA) hb); have n1_ := Aside0.mk (hbox); have n2_ := Aside0.mk ((by rw [hg]; exact (below_size (hbA)) : w.heap.size ≤ gb162)); have n3_ := n2_; clear HB; have HB := n0_; have BK162 := n1_; have GW162 := n2_; have GE162 := n3_; clear n0_ n1_ n2_ n3_; clear hb hbox hg; obtain ⟨hcz7_0, hcz7_1, hcz7_2⟩ := cellsA3 BK162.out; obtain ⟨hfz7_0, hfz7_1, hfz7_2⟩ := frozA3 BK162.out) | ((with_reducible refine gate_callee (f := 117) rfl ?_); refine goesL_ (some 15) rfl rfl Tryz.func117 (by kernel_rfl) rfl #[.agg #[.int .i64 a0_0, .int .i64 a0_1, .int .i64 a0_2], .int .i64 a1] rfl argA ?_; (with_reducible refine (foolscapref06_line.calls k a0_0 a0_1 a0_2 a1 t163 t164 _ A4.out).mono ?_); rintro e w8 ⟨rfl, hb⟩; refine ⟨_, rfl, ?_⟩; have n0_ := Aside0.mk (blk_below (g := gb162) (o := .cells #[.int .i64 a0_0, .int .i64 a0_1, .int .i64 a0_2] 47 (0, 0)) (have bk_ := BK162.out; bkA) hb); have n1_ := Aside0.mk (below_step (hbA) hb); clear BK162; clear HB; have BK162 := n0_; have HB := n1_; clear n0_ n1_; (try clear hb); (try clear hb2); (try clear hk); (try clear hi)))
 (try simp only [Act.put, List.setIfInBounds_toArray, List.set_cons_zero, List.set_cons_succ])
 go_cut [9, 10] (fun v9 v10 wc => ∃ (kq : Nat) (x9_4 : Int) (x10_4 : Int), v9 = .int .i64 x9_4 ∧ v10 = .int .i64 x10_4 ∧ Aside0 (foolscapref06_ends.j0 kq a1 a2 x9_4 x10_4 a0_0 a0_1 a0_2 = some (r1, r2, r3)) ∧ Aside0 (kq ≤ k) ∧ Aside0 (wc.heap[gb162]? = some (.cells #[.int .i64 a0_0, .int .i64 a0_1, .int .i64 a0_2] 47 (0, 0))) ∧ Aside0 (Below w.heap.size w wc))
 case first =>
  have H := HC5.out
  clear HC5
  by_cases c9 : t164 = 1
  ·rw [if_pos c9] at H
   have c9b0 : (t164 == 1) = true := beq_iff_eq.mpr c9
   have c9b1 : (t164 != 1) = false := bne_eq_false_iff_eq.mpr c9
   clear c9
   (first | rw [c9b0] | (simp only [i64_w, i32_w]; rw [c9b0]) | skip)
   by_cases c10 : a2 < (wrap64 (a0_1 + a0_2))
   ·rw [if_pos c10] at H
    have c10b0 : decide (a2 < (wrap64 (a0_1 + a0_2))) = true := decide_eq_true c10
    clear c10
    simp only [Option.some.injEq, Prod.mk.injEq] at H
    obtain ⟨rfl, rfl, rfl⟩ := H
    obtain ⟨hcz11_0, hcz11_1, hcz11_2⟩ := cellsA3 BK162.out
    obtain ⟨hfz11_0, hfz11_1, hfz11_2⟩ := frozA3 BK162.out
    go_wp2
    go_ret3
    exact ⟨rflE, hbA⟩
   ·rw [if_neg c10] at H
    have c10b0 : decide (a2 < (wrap64 (a0_1 + a0_2))) = false := decide_eq_false c10
    clear c10
    replace H := Option.bind_eq_some_iff.mp H
    obtain ⟨⟨t165, t166⟩, A120, H⟩ := H
    replace H : (foolscapref06_ends.j0 k a1 a2 t165 t166 a0_0 a0_1 a0_2) = some (r1, r2, r3) := H
    have A12 := Aside0.mk A120
    clear A120
    have H' := Aside0.mk H
    clear H
    obtain ⟨hcz13_0, hcz13_1, hcz13_2⟩ := cellsA3 BK162.out
    obtain ⟨hfz13_0, hfz13_1, hfz13_2⟩ := frozA3 BK162.out
    go_wp2_with (first | ((with_reducible refine gate_callee (f := 117) rfl ?_); refine goesL_ (some 34) rfl rfl Tryz.func117 (by kernel_rfl) rfl #[.agg #[.int .i64 a0_0, .int .i64 a0_1, .int .i64 a0_2], .int .i64 (wrap64 (a0_1 + a0_2))] rfl argA ?_; (with_reducible refine (foolscapref06_line.calls k a0_0 a0_1 a0_2 (wrap64 (a0_1 + a0_2)) t165 t166 _ A12.out).mono ?_); rintro e w14 ⟨rfl, hb⟩; refine ⟨_, rfl, ?_⟩; have n0_ := Aside0.mk (blk_below (g := gb162) (o := .cells #[.int .i64 a0_0, .int .i64 a0_1, .int .i64 a0_2] 47 (0, 0)) (have bk_ := BK162.out; bkA) hb); have n1_ := Aside0.mk (below_step (hbA) hb); clear BK162; clear HB; have BK162 := n0_; have HB := n1_; clear n0_ n1_; (try clear hb); (try clear hb2); (try clear hk); (try clear hi)))
    go_meet
    case rel => exact ⟨_, (t165), (t166), (rflS), (rflS), H', ⟨by first | omega | exact Nat.le_refl _⟩, ⟨have bk_ := BK162.out; bkA⟩, ⟨hbA⟩⟩
  ·rw [if_neg c9] at H
   have c9b0 : (t164 == 1) = false := beq_eq_false_iff_ne.mpr c9
   have c9b1 : (t164 != 1) = true := bne_iff_ne.mpr c9
   (first | rw [c9b0] | (simp only [i64_w, i32_w]; rw [c9b0]) | skip)
   have H' := Aside0.mk H
   clear H
   go_wp2
   go_meet
   case rel => exact ⟨_, (t163), (t164), (rflS), (rflS), H', ⟨by first | omega | exact Nat.le_refl _⟩, ⟨have bk_ := BK162.out; bkA⟩, ⟨hbA⟩⟩
 case rest =>
  clear HC5
  try clear c1
  try clear p2
  try clear p6
  try clear c9
  try clear c9b0
  try clear c9b1
  try clear c10
  try clear c10b0
  try clear c11
  try clear hcz11_0
  try clear hcz11_1
  try clear hcz11_2
  try clear hcz13_0
  try clear hcz13_1
  try clear hcz13_2
  try clear hcz7_0
  try clear hcz7_1
  try clear hcz7_2
  try clear hfz11_0
  try clear hfz11_1
  try clear hfz11_2
  try clear hfz13_0
  try clear hfz13_1
  try clear hfz13_2
  try clear hfz7_0
  try clear hfz7_1
  try clear hfz7_2
  obtain ⟨kq, x9_4, x10_4, rfl, rfl, HA, HJ4, BK162, HB⟩ := hcut
  cases kq with
  | zero => exact absurd HA.out (by simp [foolscapref06_ends.j0])
  | succ kj4 =>
   have H := HA.out
   clear HA
   simp only [foolscapref06_ends.j0] at H
   by_cases c15 : x10_4 = 2
   ·rw [if_pos c15] at H
    have c15b0 : (x10_4 == 2) = true := beq_iff_eq.mpr c15
    have c15b1 : (x10_4 != 2) = false := bne_eq_false_iff_eq.mpr c15
    clear c15
    simp only [Option.some.injEq, Prod.mk.injEq] at H
    obtain ⟨rfl, rfl, rfl⟩ := H
    go_wp2
    go_ret3
    exact ⟨rflE, hbA⟩
   ·rw [if_neg c15] at H
    have c15b0 : (x10_4 == 2) = false := beq_eq_false_iff_ne.mpr c15
    have c15b1 : (x10_4 != 2) = true := bne_iff_ne.mpr c15
    replace H := Option.bind_eq_some_iff.mp H
    obtain ⟨⟨t167, t168⟩, A160, H⟩ := H
    replace H : (if t168 = 1 then (some (x9_4, wrap64 (a0_1 - 1), true)) else (if t168 = 2 then ((foolscapref06_most.f a0_0 a0_1 a0_2).bind fun t169 => (if a1 < a0_1 then ((foolscapref06_most.f a0_0 a0_1 a0_2).bind fun t170 => (if (wrap64 (a0_1 + a0_2)) > t170 then (some (x9_4, wrap64 (a0_1 - 1), true)) else (some (x9_4, t169, true)))) else (some (x9_4, t169, true)))) else (some (x9_4, t167, true)))) = some (r1, r2, r3) := H
    have A16 := Aside0.mk A160
    clear A160
    by_cases c17 : t168 = 1
    ·rw [if_pos c17] at H
     have c17b0 : (t168 == 1) = true := beq_iff_eq.mpr c17
     have c17b1 : (t168 != 1) = false := bne_eq_false_iff_eq.mpr c17
     clear c17
     simp only [Option.some.injEq, Prod.mk.injEq] at H
     obtain ⟨rfl, rfl, rfl⟩ := H
     obtain ⟨hcz18_0, hcz18_1, hcz18_2⟩ := cellsA3 BK162.out
     obtain ⟨hfz18_0, hfz18_1, hfz18_2⟩ := frozA3 BK162.out
     go_wp2_with (first | ((with_reducible refine gate_callee (f := 117) rfl ?_); refine goesL_ (some 42) rfl rfl Tryz.func117 (by kernel_rfl) rfl #[.agg #[.int .i64 a0_0, .int .i64 a0_1, .int .i64 a0_2], .int .i64 a2] rfl argA ?_; (with_reducible refine (foolscapref06_line.calls kj4 a0_0 a0_1 a0_2 a2 t167 t168 _ A16.out).mono ?_); rintro e w19 ⟨rfl, hb⟩; refine ⟨_, rfl, ?_⟩; have n0_ := Aside0.mk (blk_below (g := gb162) (o := .cells #[.int .i64 a0_0, .int .i64 a0_1, .int .i64 a0_2] 47 (0, 0)) (have bk_ := BK162.out; bkA) hb); have n1_ := Aside0.mk (below_step (hbA) hb); clear BK162; clear HB; have BK162 := n0_; have HB := n1_; clear n0_ n1_; (try clear hb); (try clear hb2); (try clear hk); (try clear hi); obtain ⟨hcz20_0, hcz20_1, hcz20_2⟩ := cellsA3 BK162.out; obtain ⟨hfz20_0, hfz20_1, hfz20_2⟩ := frozA3 BK162.out))
     go_ret3
     exact ⟨rflE, hbA⟩
    ·rw [if_neg c17] at H
     have c17b0 : (t168 == 1) = false := beq_eq_false_iff_ne.mpr c17
     have c17b1 : (t168 != 1) = true := bne_iff_ne.mpr c17
     by_cases c21 : t168 = 2
     ·rw [if_pos c21] at H
      have c21b0 : (t168 == 2) = true := beq_iff_eq.mpr c21
      have c21b1 : (t168 != 2) = false := bne_eq_false_iff_eq.mpr c21
      clear c21
      replace H := Option.bind_eq_some_iff.mp H
      obtain ⟨t169, A220, H⟩ := H
      replace H : (if a1 < a0_1 then ((foolscapref06_most.f a0_0 a0_1 a0_2).bind fun t170 => (if (wrap64 (a0_1 + a0_2)) > t170 then (some (x9_4, wrap64 (a0_1 - 1), true)) else (some (x9_4, t169, true)))) else (some (x9_4, t169, true))) = some (r1, r2, r3) := H
      have A22 := Aside0.mk A220
      clear A220
      by_cases c23 : a1 < a0_1
      ·rw [if_pos c23] at H
       have c23b0 : decide (a1 < a0_1) = true := decide_eq_true c23
       clear c23
       replace H := Option.bind_eq_some_iff.mp H
       obtain ⟨t170, A240, H⟩ := H
       replace H : (if (wrap64 (a0_1 + a0_2)) > t170 then (some (x9_4, wrap64 (a0_1 - 1), true)) else (some (x9_4, t169, true))) = some (r1, r2, r3) := H
       have A24 := Aside0.mk A240
       clear A240
       by_cases c25 : (wrap64 (a0_1 + a0_2)) > t170
       ·rw [if_pos c25] at H
        have c25b0 : decide (t170 < (wrap64 (a0_1 + a0_2))) = true := decide_eq_true c25
        clear c25
        simp only [Option.some.injEq, Prod.mk.injEq] at H
        obtain ⟨rfl, rfl, rfl⟩ := H
        obtain ⟨hcz26_0, hcz26_1, hcz26_2⟩ := cellsA3 BK162.out
        obtain ⟨hfz26_0, hfz26_1, hfz26_2⟩ := frozA3 BK162.out
        try go_wp2_with (first | ((with_reducible refine gate_callee (f := 117) rfl ?_); refine goesL_ (some 42) rfl rfl Tryz.func117 (by kernel_rfl) rfl #[.agg #[.int .i64 a0_0, .int .i64 a0_1, .int .i64 a0_2], .int .i64 a2] rfl argA ?_; (with_reducible refine (foolscapref06_line.calls kj4 a0_0 a0_1 a0_2 a2 t167 t168 _ A16.out).mono ?_); rintro e w27 ⟨rfl, hb⟩; refine ⟨_, rfl, ?_⟩; have n0_ := Aside0.mk (blk_below (g := gb162) (o := .cells #[.int .i64 a0_0, .int .i64 a0_1, .int .i64 a0_2] 47 (0, 0)) (have bk_ := BK162.out; bkA) hb); have n1_ := Aside0.mk (below_step (hbA) hb); clear BK162; clear HB; have BK162 := n0_; have HB := n1_; clear n0_ n1_; (try clear hb); (try clear hb2); (try clear hk); (try clear hi); obtain ⟨hcz28_0, hcz28_1, hcz28_2⟩ := cellsA3 BK162.out; obtain ⟨hfz28_0, hfz28_1, hfz28_2⟩ := frozA3 BK162.out) | ((with_reducible refine gate_callee (f := 99) rfl ?_); refine goesL_ (some 54) rfl rfl Tryz.func99 (by kernel_rfl) rfl #[.agg #[.int .i64 a0_0, .int .i64 a0_1, .int .i64 a0_2]] rfl argA ?_; (with_reducible refine (foolscapref06_most.calls a0_0 a0_1 a0_2 t169 _ A22.out).mono ?_); rintro e w29 ⟨rfl, hb⟩; refine ⟨_, rfl, ?_⟩; have n0_ := Aside0.mk (blk_below (g := gb162) (o := .cells #[.int .i64 a0_0, .int .i64 a0_1, .int .i64 a0_2] 47 (0, 0)) (have bk_ := BK162.out; bkA) hb); have n1_ := Aside0.mk (below_step (hbA) hb); clear BK162; clear HB; have BK162 := n0_; have HB := n1_; clear n0_ n1_; (try clear hb); (try clear hb2); (try clear hk); (try clear hi)))
        have n0_ := Aside0.mk (bqY BK162.out)
        have n1_ := Aside0.mk (bqD HB.out)
        clear BK162
        clear HB
        have BK162 := n0_
        have HB := n1_
        clear n0_ n1_
        refine start_ (n := 14) (S := fun w' => w'.cell? ⟨gb162, 0, none⟩ = some (.int .i64 a0_0) ∧ w'.cell? ⟨gb162, 1, none⟩ = some (.int .i64 a0_1) ∧ w'.cell? ⟨gb162, 2, none⟩ = some (.int .i64 a0_2)) (ds := []) (Array.replicate 14 false) (by kernel_rfl) rfl rfl ⟨(blk_cell BK162.out 0).trans rfl, (blk_cell BK162.out 1).trans rfl, (blk_cell BK162.out 2).trans rfl⟩ (fun hHeld => ?_); refine with_tabW foolscapref06_ends.tab14 foolscapref06_ends.bits14 (fun HT_ HW_ => ?_)
        generalize w29.drew = w30 at BK162 HB hHeld ⊢
        refine pq 0 55 HT_ ?_; refine pq 1 56 HT_ ?_; refine tqc 2 57 HT_ HW_ hHeld ?_; refine pq 3 58 HT_ ?_; refine pq 4 59 HT_ ?_; refine pq 5 60 HT_ ?_; refine pq 7 62 HT_ ?_; refine tqc 6 61 HT_ HW_ hHeld ?_; refine tqc 8 63 HT_ HW_ hHeld ?_; refine pq 9 64 HT_ ?_; refine tqc 10 65 HT_ HW_ hHeld ?_
        refine one_ (i := 11) (N := some 66) #[true, true, true, true, true, true, true, true, true, true, true, true, false, false] rfl rfl (one_of HT_.out (by kernel_rfl)) (by decide) (fun K hK => ?_)
        refine goes_ Tryz.func99 (by kernel_rfl) rfl #[.agg #[.int .i64 a0_0, .int .i64 a0_1, .int .i64 a0_2]] (by rfl) rfl rfl argA ?_
        with_reducible refine (foolscapref06_most.calls a0_0 a0_1 a0_2 t170 _ A24.out).mono ?_
        rintro e w31 ⟨rfl, hb⟩
        refine ⟨_, rfl, ?_⟩
        have n0_ := Aside0.mk (blk_below (g := gb162) (o := .cells #[.int .i64 a0_0, .int .i64 a0_1, .int .i64 a0_2] 47 (0, 0)) (have bk_ := BK162.out; bkA) hb)
        have n1_ := Aside0.mk (below_step (hbA) hb)
        clear BK162
        clear HB
        have BK162 := n0_
        have HB := n1_
        clear n0_ n1_
        (try clear hb)
        (try clear hb2)
        (try clear hk)
        (try clear hi)
        refine hK.out _ _ ⟨(blk_cell BK162.out 0).trans rfl, (blk_cell BK162.out 1).trans rfl, (blk_cell BK162.out 2).trans rfl⟩ (fun hHeld => ?_)
        clear hK K
        refine norm_ (a' := ?_) ?_ ?_
        rotate_left
        ·show Act.put _ (some 66) _ = _
         simp only [Act.put, List.setIfInBounds_toArray, List.set_cons_zero, List.set_cons_succ, i64_w, i32_w]
         rfl
        refine pq 12 67 HT_ ?_; refine pq 13 68 HT_ ?_
        refine done_ (done_of HT_.out (by kernel_rfl)) ?_
        obtain ⟨hcz32_0, hcz32_1, hcz32_2⟩ := cellsA3 BK162.out
        obtain ⟨hfz32_0, hfz32_1, hfz32_2⟩ := frozA3 BK162.out
        try go_wp2
        go_ret3
        exact ⟨rflE, hbA⟩
       ·rw [if_neg c25] at H
        have c25b0 : decide (t170 < (wrap64 (a0_1 + a0_2))) = false := decide_eq_false c25
        clear c25
        simp only [Option.some.injEq, Prod.mk.injEq] at H
        obtain ⟨rfl, rfl, rfl⟩ := H
        obtain ⟨hcz33_0, hcz33_1, hcz33_2⟩ := cellsA3 BK162.out
        obtain ⟨hfz33_0, hfz33_1, hfz33_2⟩ := frozA3 BK162.out
        try go_wp2_with (first | ((with_reducible refine gate_callee (f := 117) rfl ?_); refine goesL_ (some 42) rfl rfl Tryz.func117 (by kernel_rfl) rfl #[.agg #[.int .i64 a0_0, .int .i64 a0_1, .int .i64 a0_2], .int .i64 a2] rfl argA ?_; (with_reducible refine (foolscapref06_line.calls kj4 a0_0 a0_1 a0_2 a2 t167 t168 _ A16.out).mono ?_); rintro e w34 ⟨rfl, hb⟩; refine ⟨_, rfl, ?_⟩; have n0_ := Aside0.mk (blk_below (g := gb162) (o := .cells #[.int .i64 a0_0, .int .i64 a0_1, .int .i64 a0_2] 47 (0, 0)) (have bk_ := BK162.out; bkA) hb); have n1_ := Aside0.mk (below_step (hbA) hb); clear BK162; clear HB; have BK162 := n0_; have HB := n1_; clear n0_ n1_; (try clear hb); (try clear hb2); (try clear hk); (try clear hi); obtain ⟨hcz35_0, hcz35_1, hcz35_2⟩ := cellsA3 BK162.out; obtain ⟨hfz35_0, hfz35_1, hfz35_2⟩ := frozA3 BK162.out) | ((with_reducible refine gate_callee (f := 99) rfl ?_); refine goesL_ (some 54) rfl rfl Tryz.func99 (by kernel_rfl) rfl #[.agg #[.int .i64 a0_0, .int .i64 a0_1, .int .i64 a0_2]] rfl argA ?_; (with_reducible refine (foolscapref06_most.calls a0_0 a0_1 a0_2 t169 _ A22.out).mono ?_); rintro e w36 ⟨rfl, hb⟩; refine ⟨_, rfl, ?_⟩; have n0_ := Aside0.mk (blk_below (g := gb162) (o := .cells #[.int .i64 a0_0, .int .i64 a0_1, .int .i64 a0_2] 47 (0, 0)) (have bk_ := BK162.out; bkA) hb); have n1_ := Aside0.mk (below_step (hbA) hb); clear BK162; clear HB; have BK162 := n0_; have HB := n1_; clear n0_ n1_; (try clear hb); (try clear hb2); (try clear hk); (try clear hi)))
        have n0_ := Aside0.mk (bqY BK162.out)
        have n1_ := Aside0.mk (bqD HB.out)
        clear BK162
        clear HB
        have BK162 := n0_
        have HB := n1_
        clear n0_ n1_
        refine start_ (n := 14) (S := fun w' => w'.cell? ⟨gb162, 0, none⟩ = some (.int .i64 a0_0) ∧ w'.cell? ⟨gb162, 1, none⟩ = some (.int .i64 a0_1) ∧ w'.cell? ⟨gb162, 2, none⟩ = some (.int .i64 a0_2)) (ds := []) (Array.replicate 14 false) (by kernel_rfl) rfl rfl ⟨(blk_cell BK162.out 0).trans rfl, (blk_cell BK162.out 1).trans rfl, (blk_cell BK162.out 2).trans rfl⟩ (fun hHeld => ?_); refine with_tabW foolscapref06_ends.tab14 foolscapref06_ends.bits14 (fun HT_ HW_ => ?_)
        generalize w36.drew = w37 at BK162 HB hHeld ⊢
        refine pq 0 55 HT_ ?_; refine pq 1 56 HT_ ?_; refine tqc 2 57 HT_ HW_ hHeld ?_; refine pq 3 58 HT_ ?_; refine pq 4 59 HT_ ?_; refine pq 5 60 HT_ ?_; refine pq 7 62 HT_ ?_; refine tqc 6 61 HT_ HW_ hHeld ?_; refine tqc 8 63 HT_ HW_ hHeld ?_; refine pq 9 64 HT_ ?_; refine tqc 10 65 HT_ HW_ hHeld ?_
        refine one_ (i := 11) (N := some 66) #[true, true, true, true, true, true, true, true, true, true, true, true, false, false] rfl rfl (one_of HT_.out (by kernel_rfl)) (by decide) (fun K hK => ?_)
        refine goes_ Tryz.func99 (by kernel_rfl) rfl #[.agg #[.int .i64 a0_0, .int .i64 a0_1, .int .i64 a0_2]] (by rfl) rfl rfl argA ?_
        with_reducible refine (foolscapref06_most.calls a0_0 a0_1 a0_2 t170 _ A24.out).mono ?_
        rintro e w38 ⟨rfl, hb⟩
        refine ⟨_, rfl, ?_⟩
        have n0_ := Aside0.mk (blk_below (g := gb162) (o := .cells #[.int .i64 a0_0, .int .i64 a0_1, .int .i64 a0_2] 47 (0, 0)) (have bk_ := BK162.out; bkA) hb)
        have n1_ := Aside0.mk (below_step (hbA) hb)
        clear BK162
        clear HB
        have BK162 := n0_
        have HB := n1_
        clear n0_ n1_
        (try clear hb)
        (try clear hb2)
        (try clear hk)
        (try clear hi)
        refine hK.out _ _ ⟨(blk_cell BK162.out 0).trans rfl, (blk_cell BK162.out 1).trans rfl, (blk_cell BK162.out 2).trans rfl⟩ (fun hHeld => ?_)
        clear hK K
        refine norm_ (a' := ?_) ?_ ?_
        rotate_left
        ·show Act.put _ (some 66) _ = _
         simp only [Act.put, List.setIfInBounds_toArray, List.set_cons_zero, List.set_cons_succ, i64_w, i32_w]
         rfl
        refine pq 12 67 HT_ ?_; refine pq 13 68 HT_ ?_
        refine done_ (done_of HT_.out (by kernel_rfl)) ?_
        try go_wp2
        go_ret3
        exact ⟨rflE, hbA⟩
      ·rw [if_neg c23] at H
       have c23b0 : decide (a1 < a0_1) = false := decide_eq_false c23
       clear c23
       simp only [Option.some.injEq, Prod.mk.injEq] at H
       obtain ⟨rfl, rfl, rfl⟩ := H
       obtain ⟨hcz39_0, hcz39_1, hcz39_2⟩ := cellsA3 BK162.out
       obtain ⟨hfz39_0, hfz39_1, hfz39_2⟩ := frozA3 BK162.out
       try go_wp2_with (first | ((with_reducible refine gate_callee (f := 117) rfl ?_); refine goesL_ (some 42) rfl rfl Tryz.func117 (by kernel_rfl) rfl #[.agg #[.int .i64 a0_0, .int .i64 a0_1, .int .i64 a0_2], .int .i64 a2] rfl argA ?_; (with_reducible refine (foolscapref06_line.calls kj4 a0_0 a0_1 a0_2 a2 t167 t168 _ A16.out).mono ?_); rintro e w40 ⟨rfl, hb⟩; refine ⟨_, rfl, ?_⟩; have n0_ := Aside0.mk (blk_below (g := gb162) (o := .cells #[.int .i64 a0_0, .int .i64 a0_1, .int .i64 a0_2] 47 (0, 0)) (have bk_ := BK162.out; bkA) hb); have n1_ := Aside0.mk (below_step (hbA) hb); clear BK162; clear HB; have BK162 := n0_; have HB := n1_; clear n0_ n1_; (try clear hb); (try clear hb2); (try clear hk); (try clear hi); obtain ⟨hcz41_0, hcz41_1, hcz41_2⟩ := cellsA3 BK162.out; obtain ⟨hfz41_0, hfz41_1, hfz41_2⟩ := frozA3 BK162.out) | ((with_reducible refine gate_callee (f := 99) rfl ?_); refine goesL_ (some 54) rfl rfl Tryz.func99 (by kernel_rfl) rfl #[.agg #[.int .i64 a0_0, .int .i64 a0_1, .int .i64 a0_2]] rfl argA ?_; (with_reducible refine (foolscapref06_most.calls a0_0 a0_1 a0_2 t169 _ A22.out).mono ?_); rintro e w42 ⟨rfl, hb⟩; refine ⟨_, rfl, ?_⟩; have n0_ := Aside0.mk (blk_below (g := gb162) (o := .cells #[.int .i64 a0_0, .int .i64 a0_1, .int .i64 a0_2] 47 (0, 0)) (have bk_ := BK162.out; bkA) hb); have n1_ := Aside0.mk (below_step (hbA) hb); clear BK162; clear HB; have BK162 := n0_; have HB := n1_; clear n0_ n1_; (try clear hb); (try clear hb2); (try clear hk); (try clear hi)))
       have n0_ := Aside0.mk (bqY BK162.out)
       have n1_ := Aside0.mk (bqD HB.out)
       clear BK162
       clear HB
       have BK162 := n0_
       have HB := n1_
       clear n0_ n1_
       refine start_ (n := 14) (S := fun w' => w'.cell? ⟨gb162, 0, none⟩ = some (.int .i64 a0_0) ∧ w'.cell? ⟨gb162, 1, none⟩ = some (.int .i64 a0_1) ∧ w'.cell? ⟨gb162, 2, none⟩ = some (.int .i64 a0_2)) (ds := []) (Array.replicate 14 false) (by kernel_rfl) rfl rfl ⟨(blk_cell BK162.out 0).trans rfl, (blk_cell BK162.out 1).trans rfl, (blk_cell BK162.out 2).trans rfl⟩ (fun hHeld => ?_); refine with_tabW foolscapref06_ends.tab14 foolscapref06_ends.bits14 (fun HT_ HW_ => ?_)
       generalize w42.drew = w43 at BK162 HB hHeld ⊢
       refine pq 0 55 HT_ ?_; refine pq 1 56 HT_ ?_; refine tqc 2 57 HT_ HW_ hHeld ?_; refine pq 3 58 HT_ ?_; refine pq 4 59 HT_ ?_; refine uq 5 60 HT_ ?_; refine uq 6 61 HT_ ?_; refine uq 7 62 HT_ ?_; refine uq 8 63 HT_ ?_; refine uq 9 64 HT_ ?_; refine uq 10 65 HT_ ?_; refine uq 11 66 HT_ ?_; refine uq 12 67 HT_ ?_; refine pq 13 68 HT_ ?_
       refine done_ (done_of HT_.out (by kernel_rfl)) ?_
       try go_wp2
       go_ret3
       exact ⟨rflE, hbA⟩
     ·rw [if_neg c21] at H
      have c21b0 : (t168 == 2) = false := beq_eq_false_iff_ne.mpr c21
      have c21b1 : (t168 != 2) = true := bne_iff_ne.mpr c21
      simp only [Option.some.injEq, Prod.mk.injEq] at H
      obtain ⟨rfl, rfl, rfl⟩ := H
      obtain ⟨hcz44_0, hcz44_1, hcz44_2⟩ := cellsA3 BK162.out
      obtain ⟨hfz44_0, hfz44_1, hfz44_2⟩ := frozA3 BK162.out
      go_wp2_with (first | ((with_reducible refine gate_callee (f := 117) rfl ?_); refine goesL_ (some 42) rfl rfl Tryz.func117 (by kernel_rfl) rfl #[.agg #[.int .i64 a0_0, .int .i64 a0_1, .int .i64 a0_2], .int .i64 a2] rfl argA ?_; (with_reducible refine (foolscapref06_line.calls kj4 a0_0 a0_1 a0_2 a2 t167 t168 _ A16.out).mono ?_); rintro e w45 ⟨rfl, hb⟩; refine ⟨_, rfl, ?_⟩; have n0_ := Aside0.mk (blk_below (g := gb162) (o := .cells #[.int .i64 a0_0, .int .i64 a0_1, .int .i64 a0_2] 47 (0, 0)) (have bk_ := BK162.out; bkA) hb); have n1_ := Aside0.mk (below_step (hbA) hb); clear BK162; clear HB; have BK162 := n0_; have HB := n1_; clear n0_ n1_; (try clear hb); (try clear hb2); (try clear hk); (try clear hi)))
      go_ret3
      exact ⟨rflE, hbA⟩
def foolscapref07_row.l0 : Nat → ByteArray → Int → Bool → Int → Option (Int)
 | 0, _, _, _, _ => none
 | k + 1, x0, x1, x2, x7 => if (wrap64 (x1 + x7)) < (x0.size : Int) then (if 0 ≤ (wrap64 (x1 + x7)) then ((foolscapref07_digit.f (bt x0 (wrap64 (x1 + x7)))).bind fun t188 => (if t188 = true then (foolscapref07_row.l0 k x0 x1 x2 (wrap64 (x7 + 1))) else (if (bt x0 (wrap64 (x1 + x7))) = 46 then (foolscapref07_row.l0 k x0 x1 x2 (wrap64 (x7 + 1))) else (if x2 = true then ((foolscapref07_letter.f (bt x0 (wrap64 (x1 + x7)))).bind fun t189 => (if t189 = true then (foolscapref07_row.l0 k x0 x1 x2 (wrap64 (x7 + 1))) else (if (bt x0 (wrap64 (x1 + x7))) = 36 then (foolscapref07_row.l0 k x0 x1 x2 (wrap64 (x7 + 1))) else (if (bt x0 (wrap64 (x1 + x7))) = 95 then (foolscapref07_row.l0 k x0 x1 x2 (wrap64 (x7 + 1))) else (some x7))))) else (some x7))))) else (none)) else (some x7)
def foolscapref07_row.f (k : Nat) (a0 : ByteArray) (a1 : Int) (a2 : Bool) : Option (Int) := foolscapref07_row.l0 k a0 a1 a2 0
theorem foolscapref07_row.calls (k : Nat) (a0 : ByteArray) (a1 : Int) (a2 : Bool) (r : Int) (w : World) (h : foolscapref07_row.f k a0 a1 a2 = some r) :
  Calls Tryz.prog 139 #[.string a0, .int .i64 a1, .bool a2] w fun e w' => e = .returned (.int .i64 r) ∧ Drawn0 w w' := by
 have H : (foolscapref07_row.l0 k a0 a1 a2 0) = some r := h
 clear h
 have H' := Aside0.mk H
 clear H
 go_enter Tryz.func139, Tryz.ntmps139
 go_wp2
 go_loopg [7] k (fun kq v7 w' => ∃ (x7_1 : Int), v7 = .int .i64 x7_1 ∧ Aside0 (foolscapref07_row.l0 kq a0 a1 a2 x7_1 = some r) ∧ Aside0 (kq ≤ k) ∧ Drawn0 w w')
 case atStart => exact ⟨(0), (rflS), H', ⟨Nat.le_refl _⟩, drA⟩
 case round =>
  clear H'
  try clear c1
  try clear p2
  obtain ⟨x7_1, rfl, HA, HK1, ⟨m1, rfl⟩⟩ := hrel
  cases gk with
  | zero => exact absurd HA.out (by simp [foolscapref07_row.l0])
  | succ k1 =>
   have H := HA.out
   clear HA
   simp only [foolscapref07_row.l0] at H
   by_cases c4 : (wrap64 (a1 + x7_1)) < (a0.size : Int)
   ·rw [if_pos c4] at H
    have c4b0 : decide ((wrap64 (a1 + x7_1)) < (a0.size : Int)) = true := decide_eq_true c4
    clear c4
    obtain ⟨ji5, hji5⟩ : ∃ j_ : Int, (wrap64 (a1 + x7_1)) = j_ := ⟨_, rfl⟩
    replace H : (if 0 ≤ (ji5) then ((foolscapref07_digit.f (bt a0 (ji5))).bind fun t188 => (if t188 = true then (foolscapref07_row.l0 k1 a0 a1 a2 (wrap64 (x7_1 + 1))) else (if (bt a0 (ji5)) = 46 then (foolscapref07_row.l0 k1 a0 a1 a2 (wrap64 (x7_1 + 1))) else (if a2 = true then ((foolscapref07_letter.f (bt a0 (ji5))).bind fun t189 => (if t189 = true then (foolscapref07_row.l0 k1 a0 a1 a2 (wrap64 (x7_1 + 1))) else (if (bt a0 (ji5)) = 36 then (foolscapref07_row.l0 k1 a0 a1 a2 (wrap64 (x7_1 + 1))) else (if (bt a0 (ji5)) = 95 then (foolscapref07_row.l0 k1 a0 a1 a2 (wrap64 (x7_1 + 1))) else (some x7_1))))) else (some x7_1))))) else (none)) = some r := by first | (rw [hji5] at H; exact H) | (simp only [hji5] at H ⊢; exact H)
    (try rw [hji5] at c4b0)
    have hji5w : (IntKind.i64.wrap (a1 + x7_1)) = ji5 := (i64_w _).trans hji5
    by_cases c6 : 0 ≤ (ji5)
    ·rw [if_pos c6] at H
     have c6b0 : decide (0 ≤ (ji5)) = true := decide_eq_true c6
     clear c6
     replace H := Option.bind_eq_some_iff.mp H
     obtain ⟨t188, A80, H⟩ := H
     replace H : (if t188 = true then (foolscapref07_row.l0 k1 a0 a1 a2 (wrap64 (x7_1 + 1))) else (if (bt a0 (ji5)) = 46 then (foolscapref07_row.l0 k1 a0 a1 a2 (wrap64 (x7_1 + 1))) else (if a2 = true then ((foolscapref07_letter.f (bt a0 (ji5))).bind fun t189 => (if t189 = true then (foolscapref07_row.l0 k1 a0 a1 a2 (wrap64 (x7_1 + 1))) else (if (bt a0 (ji5)) = 36 then (foolscapref07_row.l0 k1 a0 a1 a2 (wrap64 (x7_1 + 1))) else (if (bt a0 (ji5)) = 95 then (foolscapref07_row.l0 k1 a0 a1 a2 (wrap64 (x7_1 + 1))) else (some x7_1))))) else (some x7_1)))) = some r := H
     have A8 := Aside0.mk A80
     clear A80
     by_cases c9 : t188 = true
     ·subst c9
      have H1 : (foolscapref07_row.l0 k1 a0 a1 a2 (wrap64 (x7_1 + 1))) = some r := by rw [if_pos rfl] at H; exact H
      clear H
      have H := H1
      clear H1
      have H' := Aside0.mk H
      clear H
      have p7 : 0 ≤ ((ji5) : Int) := of_decide_eq_true kA
      have q7 : (ji5) < (a0.size : Int) := of_decide_eq_true kA
      have hx7 := bt_at a0 (ji5)
      replace p7 := eq_true p7
      replace q7 := eq_true q7
      go_wp2_with (first | ((with_reducible refine gate_callee (f := 97) rfl ?_); refine goesL_ (some 21) rfl rfl Tryz.func97 (by kernel_rfl) rfl #[.int .u8 (bt a0 (ji5))] rfl (by (try simp only [List.map_toArray, List.map_cons, List.map_nil]); first | done | (simp only [hji5]; rfl) | rfl | (simp only [List.length_drop, List.length_take]; rfl) | (simp only [ByteArray.size_append, Int.natCast_add]; done) | (simp only [ByteArray.size_append, Int.natCast_add]; rfl) | (simp only [Array.mk.injEq, List.cons.injEq, Value.int.injEq, true_and, and_true]; (try simp only [mx, mn, wrap64] at *); omega)) ?_; (with_reducible refine (foolscapref07_digit.calls (bt a0 (ji5)) true _ A8.out).mono ?_); rintro e w' ⟨rfl, ⟨nd, rfl⟩⟩; refine ⟨_, rfl, ?_⟩))
      go_roundg k1
      case measure => have := HK1.out; omega
      case rel => exact ⟨(wrap64 (x7_1 + 1)), (rflS), H', ⟨by have := HK1.out; omega⟩, drA⟩
     ·replace c9 := Bool.eq_false_iff.mpr c9
      subst c9
      have H1 : (if (bt a0 (ji5)) = 46 then (foolscapref07_row.l0 k1 a0 a1 a2 (wrap64 (x7_1 + 1))) else (if a2 = true then ((foolscapref07_letter.f (bt a0 (ji5))).bind fun t189 => (if t189 = true then (foolscapref07_row.l0 k1 a0 a1 a2 (wrap64 (x7_1 + 1))) else (if (bt a0 (ji5)) = 36 then (foolscapref07_row.l0 k1 a0 a1 a2 (wrap64 (x7_1 + 1))) else (if (bt a0 (ji5)) = 95 then (foolscapref07_row.l0 k1 a0 a1 a2 (wrap64 (x7_1 + 1))) else (some x7_1))))) else (some x7_1))) = some r := by rw [if_neg (show ¬ (false = true) by decide)] at H; exact H
      clear H
      have H := H1
      clear H1
      by_cases c10 : (bt a0 (ji5)) = 46
      ·rw [if_pos c10] at H
       have c10b0 : ((bt a0 (ji5)) == 46) = true := beq_iff_eq.mpr c10
       have c10b1 : ((bt a0 (ji5)) != 46) = false := bne_eq_false_iff_eq.mpr c10
       clear c10
       have H' := Aside0.mk H
       clear H
       have p7 : 0 ≤ ((ji5) : Int) := of_decide_eq_true kA
       have q7 : (ji5) < (a0.size : Int) := of_decide_eq_true kA
       have hx7 := bt_at a0 (ji5)
       replace p7 := eq_true p7
       replace q7 := eq_true q7
       go_wp2_with (first | ((with_reducible refine gate_callee (f := 97) rfl ?_); refine goesL_ (some 21) rfl rfl Tryz.func97 (by kernel_rfl) rfl #[.int .u8 (bt a0 (ji5))] rfl (by (try simp only [List.map_toArray, List.map_cons, List.map_nil]); first | done | (simp only [hji5]; rfl) | rfl | (simp only [List.length_drop, List.length_take]; rfl) | (simp only [ByteArray.size_append, Int.natCast_add]; done) | (simp only [ByteArray.size_append, Int.natCast_add]; rfl) | (simp only [Array.mk.injEq, List.cons.injEq, Value.int.injEq, true_and, and_true]; (try simp only [mx, mn, wrap64] at *); omega)) ?_; (with_reducible refine (foolscapref07_digit.calls (bt a0 (ji5)) false _ A8.out).mono ?_); rintro e w' ⟨rfl, ⟨nd, rfl⟩⟩; refine ⟨_, rfl, ?_⟩))
       go_roundg k1
       case measure => have := HK1.out; omega
       case rel => exact ⟨(wrap64 (x7_1 + 1)), (rflS), H', ⟨by have := HK1.out; omega⟩, drA⟩
      ·rw [if_neg c10] at H
       have c10b0 : ((bt a0 (ji5)) == 46) = false := beq_eq_false_iff_ne.mpr c10
       have c10b1 : ((bt a0 (ji5)) != 46) = true := bne_iff_ne.mpr c10
       by_cases c11 : a2 = true
       ·subst c11
        have H1 : ((foolscapref07_letter.f (bt a0 (ji5))).bind fun t189 => (if t189 = true then (foolscapref07_row.l0 k1 a0 a1 true (wrap64 (x7_1 + 1))) else (if (bt a0 (ji5)) = 36 then (foolscapref07_row.l0 k1 a0 a1 true (wrap64 (x7_1 + 1))) else (if (bt a0 (ji5)) = 95 then (foolscapref07_row.l0 k1 a0 a1 true (wrap64 (x7_1 + 1))) else (some x7_1))))) = some r := by rw [if_pos rfl] at H; exact H
        clear H
        have H := H1
        clear H1
        replace H := Option.bind_eq_some_iff.mp H
        obtain ⟨t189, A120, H⟩ := H
        replace H : (if t189 = true then (foolscapref07_row.l0 k1 a0 a1 true (wrap64 (x7_1 + 1))) else (if (bt a0 (ji5)) = 36 then (foolscapref07_row.l0 k1 a0 a1 true (wrap64 (x7_1 + 1))) else (if (bt a0 (ji5)) = 95 then (foolscapref07_row.l0 k1 a0 a1 true (wrap64 (x7_1 + 1))) else (some x7_1)))) = some r := H
        have A12 := Aside0.mk A120
        clear A120
        by_cases c13 : t189 = true
        ·subst c13
         have H1 : (foolscapref07_row.l0 k1 a0 a1 true (wrap64 (x7_1 + 1))) = some r := by rw [if_pos rfl] at H; exact H
         clear H
         have H := H1
         clear H1
         have H' := Aside0.mk H
         clear H
         have p7 : 0 ≤ ((ji5) : Int) := of_decide_eq_true kA
         have q7 : (ji5) < (a0.size : Int) := of_decide_eq_true kA
         have hx7 := bt_at a0 (ji5)
         replace p7 := eq_true p7
         replace q7 := eq_true q7
         go_wp2_with (first | ((with_reducible refine gate_callee (f := 97) rfl ?_); refine goesL_ (some 21) rfl rfl Tryz.func97 (by kernel_rfl) rfl #[.int .u8 (bt a0 (ji5))] rfl (by (try simp only [List.map_toArray, List.map_cons, List.map_nil]); first | done | (simp only [hji5]; rfl) | rfl | (simp only [List.length_drop, List.length_take]; rfl) | (simp only [ByteArray.size_append, Int.natCast_add]; done) | (simp only [ByteArray.size_append, Int.natCast_add]; rfl) | (simp only [Array.mk.injEq, List.cons.injEq, Value.int.injEq, true_and, and_true]; (try simp only [mx, mn, wrap64] at *); omega)) ?_; (with_reducible refine (foolscapref07_digit.calls (bt a0 (ji5)) false _ A8.out).mono ?_); rintro e w' ⟨rfl, ⟨nd, rfl⟩⟩; refine ⟨_, rfl, ?_⟩) | (go_at_call 96; (with_reducible refine (foolscapref07_letter.calls (bt a0 (ji5)) true _ A12.out).mono ?_); rintro e w' ⟨rfl, ⟨nd, rfl⟩⟩))
         go_roundg k1
         case measure => have := HK1.out; omega
         case rel => exact ⟨(wrap64 (x7_1 + 1)), (rflS), H', ⟨by have := HK1.out; omega⟩, drA⟩
        ·replace c13 := Bool.eq_false_iff.mpr c13
         subst c13
         have H1 : (if (bt a0 (ji5)) = 36 then (foolscapref07_row.l0 k1 a0 a1 true (wrap64 (x7_1 + 1))) else (if (bt a0 (ji5)) = 95 then (foolscapref07_row.l0 k1 a0 a1 true (wrap64 (x7_1 + 1))) else (some x7_1))) = some r := by rw [if_neg (show ¬ (false = true) by decide)] at H; exact H
         clear H
         have H := H1
         clear H1
         by_cases c14 : (bt a0 (ji5)) = 36
         ·rw [if_pos c14] at H
          have c14b0 : ((bt a0 (ji5)) == 36) = true := beq_iff_eq.mpr c14
          have c14b1 : ((bt a0 (ji5)) != 36) = false := bne_eq_false_iff_eq.mpr c14
          clear c14
          have H' := Aside0.mk H
          clear H
          have p7 : 0 ≤ ((ji5) : Int) := of_decide_eq_true kA
          have q7 : (ji5) < (a0.size : Int) := of_decide_eq_true kA
          have hx7 := bt_at a0 (ji5)
          replace p7 := eq_true p7
          replace q7 := eq_true q7
          go_wp2_with (first | ((with_reducible refine gate_callee (f := 97) rfl ?_); refine goesL_ (some 21) rfl rfl Tryz.func97 (by kernel_rfl) rfl #[.int .u8 (bt a0 (ji5))] rfl (by (try simp only [List.map_toArray, List.map_cons, List.map_nil]); first | done | (simp only [hji5]; rfl) | rfl | (simp only [List.length_drop, List.length_take]; rfl) | (simp only [ByteArray.size_append, Int.natCast_add]; done) | (simp only [ByteArray.size_append, Int.natCast_add]; rfl) | (simp only [Array.mk.injEq, List.cons.injEq, Value.int.injEq, true_and, and_true]; (try simp only [mx, mn, wrap64] at *); omega)) ?_; (with_reducible refine (foolscapref07_digit.calls (bt a0 (ji5)) false _ A8.out).mono ?_); rintro e w' ⟨rfl, ⟨nd, rfl⟩⟩; refine ⟨_, rfl, ?_⟩) | (go_at_call 96; (with_reducible refine (foolscapref07_letter.calls (bt a0 (ji5)) false _ A12.out).mono ?_); rintro e w' ⟨rfl, ⟨nd, rfl⟩⟩))
          go_roundg k1
          case measure => have := HK1.out; omega
          case rel => exact ⟨(wrap64 (x7_1 + 1)), (rflS), H', ⟨by have := HK1.out; omega⟩, drA⟩
         ·rw [if_neg c14] at H
          have c14b0 : ((bt a0 (ji5)) == 36) = false := beq_eq_false_iff_ne.mpr c14
          have c14b1 : ((bt a0 (ji5)) != 36) = true := bne_iff_ne.mpr c14
          by_cases c15 : (bt a0 (ji5)) = 95
          ·rw [if_pos c15] at H
           have c15b0 : ((bt a0 (ji5)) == 95) = true := beq_iff_eq.mpr c15
           have c15b1 : ((bt a0 (ji5)) != 95) = false := bne_eq_false_iff_eq.mpr c15
           clear c15
           have H' := Aside0.mk H
           clear H
           have p7 : 0 ≤ ((ji5) : Int) := of_decide_eq_true kA
           have q7 : (ji5) < (a0.size : Int) := of_decide_eq_true kA
           have hx7 := bt_at a0 (ji5)
           replace p7 := eq_true p7
           replace q7 := eq_true q7
           go_wp2_with (first | ((with_reducible refine gate_callee (f := 97) rfl ?_); refine goesL_ (some 21) rfl rfl Tryz.func97 (by kernel_rfl) rfl #[.int .u8 (bt a0 (ji5))] rfl (by (try simp only [List.map_toArray, List.map_cons, List.map_nil]); first | done | (simp only [hji5]; rfl) | rfl | (simp only [List.length_drop, List.length_take]; rfl) | (simp only [ByteArray.size_append, Int.natCast_add]; done) | (simp only [ByteArray.size_append, Int.natCast_add]; rfl) | (simp only [Array.mk.injEq, List.cons.injEq, Value.int.injEq, true_and, and_true]; (try simp only [mx, mn, wrap64] at *); omega)) ?_; (with_reducible refine (foolscapref07_digit.calls (bt a0 (ji5)) false _ A8.out).mono ?_); rintro e w' ⟨rfl, ⟨nd, rfl⟩⟩; refine ⟨_, rfl, ?_⟩) | (go_at_call 96; (with_reducible refine (foolscapref07_letter.calls (bt a0 (ji5)) false _ A12.out).mono ?_); rintro e w' ⟨rfl, ⟨nd, rfl⟩⟩))
           go_roundg k1
           case measure => have := HK1.out; omega
           case rel => exact ⟨(wrap64 (x7_1 + 1)), (rflS), H', ⟨by have := HK1.out; omega⟩, drA⟩
          ·rw [if_neg c15] at H
           have c15b0 : ((bt a0 (ji5)) == 95) = false := beq_eq_false_iff_ne.mpr c15
           have c15b1 : ((bt a0 (ji5)) != 95) = true := bne_iff_ne.mpr c15
           obtain rfl := Option.some.inj H
           have p7 : 0 ≤ ((ji5) : Int) := of_decide_eq_true kA
           have q7 : (ji5) < (a0.size : Int) := of_decide_eq_true kA
           have hx7 := bt_at a0 (ji5)
           replace p7 := eq_true p7
           replace q7 := eq_true q7
           go_wp2_with (first | ((with_reducible refine gate_callee (f := 97) rfl ?_); refine goesL_ (some 21) rfl rfl Tryz.func97 (by kernel_rfl) rfl #[.int .u8 (bt a0 (ji5))] rfl (by (try simp only [List.map_toArray, List.map_cons, List.map_nil]); first | done | (simp only [hji5]; rfl) | rfl | (simp only [List.length_drop, List.length_take]; rfl) | (simp only [ByteArray.size_append, Int.natCast_add]; done) | (simp only [ByteArray.size_append, Int.natCast_add]; rfl) | (simp only [Array.mk.injEq, List.cons.injEq, Value.int.injEq, true_and, and_true]; (try simp only [mx, mn, wrap64] at *); omega)) ?_; (with_reducible refine (foolscapref07_digit.calls (bt a0 (ji5)) false _ A8.out).mono ?_); rintro e w' ⟨rfl, ⟨nd, rfl⟩⟩; refine ⟨_, rfl, ?_⟩) | (go_at_call 96; (with_reducible refine (foolscapref07_letter.calls (bt a0 (ji5)) false _ A12.out).mono ?_); rintro e w' ⟨rfl, ⟨nd, rfl⟩⟩))
           go_ret
           exact ⟨by first | rfl | (simp; done) | (simp only [← hji5] <;> (first | rfl | simp)) | (simp [*]; done), drA⟩
       ·replace c11 := Bool.eq_false_iff.mpr c11
        subst c11
        have H1 : (some x7_1) = some r := by rw [if_neg (show ¬ (false = true) by decide)] at H; exact H
        clear H
        have H := H1
        clear H1
        obtain rfl := Option.some.inj H
        have p7 : 0 ≤ ((ji5) : Int) := of_decide_eq_true kA
        have q7 : (ji5) < (a0.size : Int) := of_decide_eq_true kA
        have hx7 := bt_at a0 (ji5)
        replace p7 := eq_true p7
        replace q7 := eq_true q7
        go_wp2_with (first | ((with_reducible refine gate_callee (f := 97) rfl ?_); refine goesL_ (some 21) rfl rfl Tryz.func97 (by kernel_rfl) rfl #[.int .u8 (bt a0 (ji5))] rfl (by (try simp only [List.map_toArray, List.map_cons, List.map_nil]); first | done | (simp only [hji5]; rfl) | rfl | (simp only [List.length_drop, List.length_take]; rfl) | (simp only [ByteArray.size_append, Int.natCast_add]; done) | (simp only [ByteArray.size_append, Int.natCast_add]; rfl) | (simp only [Array.mk.injEq, List.cons.injEq, Value.int.injEq, true_and, and_true]; (try simp only [mx, mn, wrap64] at *); omega)) ?_; (with_reducible refine (foolscapref07_digit.calls (bt a0 (ji5)) false _ A8.out).mono ?_); rintro e w' ⟨rfl, ⟨nd, rfl⟩⟩; refine ⟨_, rfl, ?_⟩))
        go_ret
        exact ⟨by first | rfl | (simp; done) | (simp only [← hji5] <;> (first | rfl | simp)) | (simp [*]; done), drA⟩
    ·rw [if_neg c6] at H
     exact absurd H (by simp)
   ·rw [if_neg c4] at H
    have c4b0 : decide ((wrap64 (a1 + x7_1)) < (a0.size : Int)) = false := decide_eq_false c4
    clear c4
    obtain rfl := Option.some.inj H
    go_wp2
    go_ret
    exact ⟨rflS, drA⟩
def foolscapref07_number.f (k : Nat) (a0 : ByteArray) (a1 : Int) : Option (Int × Int × Int × ByteArray × Bool × Int × Int × Int × Bool × Bool × ByteArray × Int × Int × Int) := none
theorem foolscapref07_number.calls (k : Nat) (a0 : ByteArray) (a1 : Int) (r1 : Int) (r2 : Int) (r3 : Int) (r4 : ByteArray) (r5 : Bool) (r6 : Int) (r7 : Int) (r8 : Int) (r9 : Bool) (r10 : Bool) (r11 : ByteArray) (r12 : Int) (r13 : Int) (r14 : Int) (w : World) (h : foolscapref07_number.f k a0 a1 = some (r1, r2, r3, r4, r5, r6, r7, r8, r9, r10, r11, r12, r13, r14)) :
  Calls Tryz.prog 120 #[.string a0, .int .i64 a1] w fun e w' => e = .returned (.tuple #[.agg #[.int .i64 r1, .int .i64 r2, .int .i64 r3, .string r4, .bool r5, .int .i64 r6, .int .i64 r7, .int .i64 r8, .bool r9, .bool r10, .string r11, .int .i64 r12], .int .i64 r13, .int .i64 r14]) ∧ Below w.heap.size w w' := by
 unfold foolscapref07_number.f at h
 cases h
def foolscapref07_text.f (k : Nat) (a0 : ByteArray) (a1 : Int) : Option (Int × Int × Int × ByteArray × Bool × Int × Int × Int × Bool × Bool × ByteArray × Int × Int × Int) := none
theorem foolscapref07_text.calls (k : Nat) (a0 : ByteArray) (a1 : Int) (r1 : Int) (r2 : Int) (r3 : Int) (r4 : ByteArray) (r5 : Bool) (r6 : Int) (r7 : Int) (r8 : Int) (r9 : Bool) (r10 : Bool) (r11 : ByteArray) (r12 : Int) (r13 : Int) (r14 : Int) (w : World) (h : foolscapref07_text.f k a0 a1 = some (r1, r2, r3, r4, r5, r6, r7, r8, r9, r10, r11, r12, r13, r14)) :
  Calls Tryz.prog 121 #[.string a0, .int .i64 a1] w fun e w' => e = .returned (.tuple #[.agg #[.int .i64 r1, .int .i64 r2, .int .i64 r3, .string r4, .bool r5, .int .i64 r6, .int .i64 r7, .int .i64 r8, .bool r9, .bool r10, .string r11, .int .i64 r12], .int .i64 r13, .int .i64 r14]) ∧ Below w.heap.size w w' := by
 unfold foolscapref07_text.f at h
 cases h
def foolscapref04_Names.f  : Option (List ByteArray) := some (([(⟨#[]⟩ : ByteArray), (⟨#[35, 68, 73, 86, 47, 48, 33]⟩ : ByteArray), (⟨#[35, 86, 65, 76, 85, 69, 33]⟩ : ByteArray), (⟨#[35, 82, 69, 70, 33]⟩ : ByteArray), (⟨#[35, 78, 65, 77, 69, 63]⟩ : ByteArray), (⟨#[35, 78, 85, 77, 33]⟩ : ByteArray), (⟨#[35, 78, 47, 65]⟩ : ByteArray), (⟨#[35, 67, 89, 67, 76, 69, 33]⟩ : ByteArray)] : List ByteArray))
theorem foolscapref04_Names.calls  (r : List ByteArray) (w : World) (h : foolscapref04_Names.f  = some r) :
  Calls Tryz.prog 126 #[] w fun e w' => ∃ v0_ : Value, e = .returned (v0_) ∧ Kd.R Kd.string 9 w' w.heap.size (fun _ => True) v0_ r ∧ Below w.heap.size w w' := by
 have HB := Aside0.mk (Below.refl w.heap.size w)
 have H : (some (([(⟨#[]⟩ : ByteArray), (⟨#[35, 68, 73, 86, 47, 48, 33]⟩ : ByteArray), (⟨#[35, 86, 65, 76, 85, 69, 33]⟩ : ByteArray), (⟨#[35, 82, 69, 70, 33]⟩ : ByteArray), (⟨#[35, 78, 65, 77, 69, 63]⟩ : ByteArray), (⟨#[35, 78, 85, 77, 33]⟩ : ByteArray), (⟨#[35, 78, 47, 65]⟩ : ByteArray), (⟨#[35, 67, 89, 67, 76, 69, 33]⟩ : ByteArray)] : List ByteArray))) = some r := h
 clear h
 obtain ⟨y197, hy197⟩ : ∃ y_ : List ByteArray, y_ = (([(⟨#[]⟩ : ByteArray), (⟨#[35, 68, 73, 86, 47, 48, 33]⟩ : ByteArray), (⟨#[35, 86, 65, 76, 85, 69, 33]⟩ : ByteArray), (⟨#[35, 82, 69, 70, 33]⟩ : ByteArray), (⟨#[35, 78, 65, 77, 69, 63]⟩ : ByteArray), (⟨#[35, 78, 85, 77, 33]⟩ : ByteArray), (⟨#[35, 78, 47, 65]⟩ : ByteArray), (⟨#[35, 67, 89, 67, 76, 69, 33]⟩ : ByteArray)] : List ByteArray)) := ⟨_, rfl⟩
 replace H : (some y197) = some r := by first | (rw [hy197]; with_reducible exact H) | (have H2_ := (Option.bind_some _ _).symm.trans H; rw [hy197]; with_reducible exact H2_) | (have H2_ := (Option.bind_some _ _).symm.trans H; with_reducible exact H2_) | with_reducible exact H | (rw [hy197]; exact H) | exact H
 have Ny197 := Aside0.mk hy197
 clear hy197
 obtain rfl := Option.some.inj H
 go_enter Tryz.func126, Tryz.ntmps126
 go_wp2_with (first | ((with_reducible refine gate_dst (N := 1) rfl ?_); refine Kd.R_lit Kd.string _ 9 ?hg (N := 1) ?hd (xs := ([(⟨#[]⟩ : ByteArray), (⟨#[35, 68, 73, 86, 47, 48, 33]⟩ : ByteArray), (⟨#[35, 86, 65, 76, 85, 69, 33]⟩ : ByteArray), (⟨#[35, 82, 69, 70, 33]⟩ : ByteArray), (⟨#[35, 78, 65, 77, 69, 63]⟩ : ByteArray), (⟨#[35, 78, 85, 77, 33]⟩ : ByteArray), (⟨#[35, 78, 47, 65]⟩ : ByteArray), (⟨#[35, 67, 89, 67, 76, 69, 33]⟩ : ByteArray)] : List ByteArray)) (inner := [.string (⟨#[]⟩ : ByteArray), .string (⟨#[35, 68, 73, 86, 47, 48, 33]⟩ : ByteArray), .string (⟨#[35, 86, 65, 76, 85, 69, 33]⟩ : ByteArray), .string (⟨#[35, 82, 69, 70, 33]⟩ : ByteArray), .string (⟨#[35, 78, 65, 77, 69, 63]⟩ : ByteArray), .string (⟨#[35, 78, 85, 77, 33]⟩ : ByteArray), .string (⟨#[35, 78, 47, 65]⟩ : ByteArray), .string (⟨#[35, 67, 89, 67, 76, 69, 33]⟩ : ByteArray)]) (ok := fun _ => True) (okp := fun _ => True) ?hr ?hp (fun _ hk => hk) trivial (Below.refl _ _) (Nat.le_refl _) (by simp) ?_; (case hd => rfl); (case hg => rfl); (case hr => first | (go_simp; done) | (go_simp; rfl)); (case hp => exact (Reps.one (show Kd.M Kd.string _ _ _ (⟨#[]⟩ : ByteArray) [.string (⟨#[]⟩ : ByteArray)] from rfl) (Reps.one (show Kd.M Kd.string _ _ _ (⟨#[35, 68, 73, 86, 47, 48, 33]⟩ : ByteArray) [.string (⟨#[35, 68, 73, 86, 47, 48, 33]⟩ : ByteArray)] from rfl) (Reps.one (show Kd.M Kd.string _ _ _ (⟨#[35, 86, 65, 76, 85, 69, 33]⟩ : ByteArray) [.string (⟨#[35, 86, 65, 76, 85, 69, 33]⟩ : ByteArray)] from rfl) (Reps.one (show Kd.M Kd.string _ _ _ (⟨#[35, 82, 69, 70, 33]⟩ : ByteArray) [.string (⟨#[35, 82, 69, 70, 33]⟩ : ByteArray)] from rfl) (Reps.one (show Kd.M Kd.string _ _ _ (⟨#[35, 78, 65, 77, 69, 63]⟩ : ByteArray) [.string (⟨#[35, 78, 65, 77, 69, 63]⟩ : ByteArray)] from rfl) (Reps.one (show Kd.M Kd.string _ _ _ (⟨#[35, 78, 85, 77, 33]⟩ : ByteArray) [.string (⟨#[35, 78, 85, 77, 33]⟩ : ByteArray)] from rfl) (Reps.one (show Kd.M Kd.string _ _ _ (⟨#[35, 78, 47, 65]⟩ : ByteArray) [.string (⟨#[35, 78, 47, 65]⟩ : ByteArray)] from rfl) (Reps.one (show Kd.M Kd.string _ _ _ (⟨#[35, 67, 89, 67, 76, 69, 33]⟩ : ByteArray) [.string (⟨#[35, 67, 89, 67, 76, 69, 33]⟩ : ByteArray)] from rfl) (Reps.none _ _)))))))))); intro v198 w1 ho2 hb hg_ hnew_; clear hg_ hnew_; (first | rw [← Ny197.out] at ho2 | (simp only [Int.reduceToNat] at ho2; rw [← Ny197.out] at ho2)); have n0_ := Aside0.mk (Kd.R_lower ho2 (below_size (hbA))); have n1_ := Aside0.mk (below_step (hbA) hb); clear HB; have HO199 := n0_; have HB := n1_; clear n0_ n1_; clear hb ho2))
 go_ret
 exact ⟨_, rflE, by (with_reducible repeat (first | apply Kd.R_alloc | apply Kd.R_drewN | apply Kd.R_drew)); exact HO199.out, hbA⟩
def foolscapref07_fault.f (k : Nat) (a0 : ByteArray) (a1 : Int) : Option (Int × Int × Int × ByteArray × Bool × Int × Int × Int × Bool × Bool × ByteArray × Int × Int × Int) := none
def foolscapref07_fault.T5 : Bool × List (List Nat × List Nat) := (true, [([], []), ([0], [0]), ([], []), ([1, 2], [1, 2]), ([], []), ([], []), ([4, 5], [4, 5]), ([6], [6]), ([7], [7]), ([3, 8], [3, 8]), ([9], [9]), ([10], [10]), ([10], [10]), ([10], [10]), ([10], [10]), ([10], [10]), ([14, 15, 10], [10, 14, 15]), ([16, 10], [10, 16]), ([17, 10], [10, 17]), ([13, 18, 10], [10, 13, 18]), ([11, 12, 19, 10], [10, 11, 12, 19]), ([10], [10]), ([10], [10]), ([21, 22, 10], [10, 21, 22]), ([23, 10], [10, 23]), ([20, 24, 10], [10, 20, 24]), ([10, 25], [10, 25])])
def foolscapref07_fault.B5 : List Nat := [0, 1, 0, 7, 0, 0, 48, 112, 240, 511, 1023, 2047, 2047, 2047, 2047, 2047, 51199, 116735, 247807, 518143, 1048575, 2047, 2047, 6293503, 14682111, 33554431, 67108863]
theorem foolscapref07_fault.tab5 : rtab .any (opsOf Tryz.f122 5) = foolscapref07_fault.T5 := by kernel_rfl
theorem foolscapref07_fault.bits5 : waitsOk foolscapref07_fault.T5.2 foolscapref07_fault.B5 = true := by kernel_rfl
def foolscapref07_fault.T6 : Bool × List (List Nat × List Nat) := (true, [([], []), ([0], [0]), ([], []), ([1, 2], [1, 2]), ([], []), ([], []), ([], []), ([5, 6], [5, 6]), ([7], [7]), ([8], [8]), ([4, 9], [4, 9]), ([3, 0, 1, 2, 3], [3]), ([10, 11, 0, 1, 2, 3, 4, 5, 6, 7, 8, 9, 10, 11], [10]), ([12, 0, 1, 2, 3, 4, 5, 6, 7, 8, 9, 10, 11, 12], [])])
def foolscapref07_fault.B6 : List Nat := [0, 1, 0, 7, 0, 0, 0, 96, 224, 480, 1008, 15, 4095, 8191]
theorem foolscapref07_fault.tab6 : rtab .any (opsOf Tryz.f122 6) = foolscapref07_fault.T6 := by kernel_rfl
theorem foolscapref07_fault.bits6 : waitsOk foolscapref07_fault.T6.2 foolscapref07_fault.B6 = true := by kernel_rfl
theorem foolscapref07_fault.calls (k : Nat) (a0 : ByteArray) (a1 : Int) (r1 : Int) (r2 : Int) (r3 : Int) (r4 : ByteArray) (r5 : Bool) (r6 : Int) (r7 : Int) (r8 : Int) (r9 : Bool) (r10 : Bool) (r11 : ByteArray) (r12 : Int) (r13 : Int) (r14 : Int) (w : World) (h : foolscapref07_fault.f k a0 a1 = some (r1, r2, r3, r4, r5, r6, r7, r8, r9, r10, r11, r12, r13, r14)) :
  Calls Tryz.prog 122 #[.string a0, .int .i64 a1] w fun e w' => e = .returned (.tuple #[.agg #[.int .i64 r1, .int .i64 r2, .int .i64 r3, .string r4, .bool r5, .int .i64 r6, .int .i64 r7, .int .i64 r8, .bool r9, .bool r10, .string r11, .int .i64 r12], .int .i64 r13, .int .i64 r14]) ∧ Below w.heap.size w w' := by
 unfold foolscapref07_fault.f at h
 cases h
end Go.Proofs.YthnldbclbfpojaaGreatDoor.Pr
end
