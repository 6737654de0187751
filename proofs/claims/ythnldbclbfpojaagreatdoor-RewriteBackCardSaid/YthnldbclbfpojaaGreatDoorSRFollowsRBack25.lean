/-
  Lemmas for the law RFollowsRBack.
-/
import Derived.Test.YthnldbclbfpojaaGreatDoorSRFollowsRBack5
import Derived.Test.YthnldbclbfpojaaGreatDoorSRFollowsRBack13
import Derived.Test.YthnldbclbfpojaaGreatDoorSRFollowsRBack19
import Derived.Test.YthnldbclbfpojaaGreatDoorSRFollowsRBack24
set_option maxHeartbeats 8000000
set_option maxRecDepth 100000
set_option linter.unusedVariables false
set_option linter.unusedSimpArgs false
section
namespace Go.Proofs.YthnldbclbfpojaaGreatDoor.Pr
open Go.RowKit Go.Proofs.YthnldbclbfpojaaGreatDoorW.PrintWords Go.Proofs.YthnldbclbfpojaaGreatDoorW.PrintLast Go.Proofs.YthnldbclbfpojaaGreatDoorW.PrintMore
attribute [local go_sem] max2_int min2_int max_two min_two max_three min_three max_four min_four   -- for this text's walks alone
def foolscapref04_Words.f (k : Nat) (a0_0 : Int) (a0_1 : Int) (a0_2 : ByteArray) (a0_3 : Bool) (a0_4 : Int) : Option (ByteArray × Int) := (foolscapref04_fault.f a0_0 a0_1 a0_2 a0_3 a0_4).bind fun t273 => (if t273 = 0 then (if a0_0 = 1 then ((foolscapref01_Print.f k a0_1).bind fun bt274 => (some (bt274.1, 0))) else (if a0_0 = 2 then (some (a0_2, 0)) else (if a0_0 = 3 then (if a0_3 = true then (some ((⟨#[84, 82, 85, 69]⟩ : ByteArray), 0)) else (some ((⟨#[70, 65, 76, 83, 69]⟩ : ByteArray), 0))) else (some ((⟨#[]⟩ : ByteArray), 0))))) else (some ((⟨#[]⟩ : ByteArray), t273)))
theorem foolscapref04_Words.calls (k : Nat) (a0_0 : Int) (a0_1 : Int) (a0_2 : ByteArray) (a0_3 : Bool) (a0_4 : Int) (r1 : ByteArray) (r2 : Int) (w : World) (h : foolscapref04_Words.f k a0_0 a0_1 a0_2 a0_3 a0_4 = some (r1, r2)) :
  Calls Tryz.prog 127 #[.agg #[.int .i64 a0_0, .int .i64 a0_1, .string a0_2, .bool a0_3, .int .i64 a0_4]] w fun e w' => e = .returned (.tuple #[.string r1, .int .i64 r2]) ∧ Below w.heap.size w w' := by
 have hu26 := Tryz.underlying26
 have HB := Aside0.mk (Below.refl w.heap.size w)
 have H : ((foolscapref04_fault.f a0_0 a0_1 a0_2 a0_3 a0_4).bind fun t273 => (if t273 = 0 then (if a0_0 = 1 then ((foolscapref01_Print.f k a0_1).bind fun bt274 => (some (bt274.1, 0))) else (if a0_0 = 2 then (some (a0_2, 0)) else (if a0_0 = 3 then (if a0_3 = true then (some ((⟨#[84, 82, 85, 69]⟩ : ByteArray), 0)) else (some ((⟨#[70, 65, 76, 83, 69]⟩ : ByteArray), 0))) else (some ((⟨#[]⟩ : ByteArray), 0))))) else (some ((⟨#[]⟩ : ByteArray), t273)))) = some (r1, r2) := h
 clear h
 replace H := Option.bind_eq_some_iff.mp H
 obtain ⟨t273, A20, H⟩ := H
 replace H : (if t273 = 0 then (if a0_0 = 1 then ((foolscapref01_Print.f k a0_1).bind fun bt274 => (some (bt274.1, 0))) else (if a0_0 = 2 then (some (a0_2, 0)) else (if a0_0 = 3 then (if a0_3 = true then (some ((⟨#[84, 82, 85, 69]⟩ : ByteArray), 0)) else (some ((⟨#[70, 65, 76, 83, 69]⟩ : ByteArray), 0))) else (some ((⟨#[]⟩ : ByteArray), 0))))) else (some ((⟨#[]⟩ : ByteArray), t273))) = some (r1, r2) := H
 have A2 := Aside0.mk A20
 clear A20
 by_cases c3 : t273 = 0
 ·rw [if_pos c3] at H
  have c3b0 : (t273 == 0) = true := beq_iff_eq.mpr c3
  have c3b1 : (t273 != 0) = false := bne_eq_false_iff_eq.mpr c3
  clear c3
  by_cases c4 : a0_0 = 1
  ·rw [if_pos c4] at H
   have c4b0 : (a0_0 == 1) = true := beq_iff_eq.mpr c4
   have c4b1 : (a0_0 != 1) = false := bne_eq_false_iff_eq.mpr c4
   clear c4
   replace H := Option.bind_eq_some_iff.mp H
   obtain ⟨⟨t274, t275⟩, A50, H⟩ := H
   replace H : (some (t274, 0)) = some (r1, r2) := H
   have A5 := Aside0.mk A50
   clear A50
   simp only [Option.some.injEq, Prod.mk.injEq] at H
   obtain ⟨rfl, rfl⟩ := H
   go_enter Tryz.func127, Tryz.ntmps127
   go_wp2_with (first | ((with_reducible refine gate_dst (N := 1) rfl ?_); refine boxE 1 26 (#[.int .i64 a0_0, .int .i64 a0_1, .string a0_2, .bool a0_3, .int .i64 a0_4]) ?_; intro gb272 hg w6 hbox hb; have n0_ := Aside0.mk (below_step (hbA) hb); have n1_ := Aside0.mk (hbox); have n2_ := Aside0.mk ((by rw [hg]; exact (below_size (hbA)) : w.heap.size ≤ gb272)); have n3_ := n2_; clear HB; have HB := n0_; have BK272 := n1_; have GW272 := n2_; have GE272 := n3_; clear n0_ n1_ n2_ n3_; clear hb hbox hg; obtain ⟨hcz7_0, hcz7_1, hcz7_2, hcz7_3, hcz7_4⟩ := cellsA5 BK272.out; obtain ⟨hfz7_0, hfz7_1, hfz7_2, hfz7_3, hfz7_4⟩ := frozA5 BK272.out) | ((with_reducible refine gate_callee (f := 142) rfl ?_); refine goesL_ (some 8) rfl rfl Tryz.func142 (by kernel_rfl) rfl #[.agg #[.int .i64 a0_0, .int .i64 a0_1, .string a0_2, .bool a0_3, .int .i64 a0_4]] rfl argA ?_; (with_reducible refine (foolscapref04_fault.calls a0_0 a0_1 a0_2 a0_3 a0_4 t273 _ A2.out).mono ?_); rintro e w8 ⟨rfl, hb⟩; refine ⟨_, rfl, ?_⟩; have n0_ := Aside0.mk (blk_below (g := gb272) (o := .cells #[.int .i64 a0_0, .int .i64 a0_1, .string a0_2, .bool a0_3, .int .i64 a0_4] 26 (0, 0)) (have bk_ := BK272.out; bkA) hb); have n1_ := Aside0.mk (below_step (hbA) hb); clear BK272; clear HB; have BK272 := n0_; have HB := n1_; clear n0_ n1_; (try clear hb); (try clear hb2); (try clear hk); (try clear hi); obtain ⟨hcz9_0, hcz9_1, hcz9_2, hcz9_3, hcz9_4⟩ := cellsA5 BK272.out; obtain ⟨hfz9_0, hfz9_1, hfz9_2, hfz9_3, hfz9_4⟩ := frozA5 BK272.out) | ((with_reducible refine gate_callee (f := 143) rfl ?_); refine goesL_ (some 19) rfl rfl Tryz.func143 (by kernel_rfl) rfl #[.int .i64 a0_1] rfl argA ?_; (with_reducible refine (foolscapref01_Print.calls k a0_1 t274 t275 _ A5.out).mono ?_); rintro e w10 ⟨rfl, hb⟩; refine ⟨_, rfl, ?_⟩; have n0_ := Aside0.mk (blk_below (g := gb272) (o := .cells #[.int .i64 a0_0, .int .i64 a0_1, .string a0_2, .bool a0_3, .int .i64 a0_4] 26 (0, 0)) (have bk_ := BK272.out; bkA) hb); have n1_ := Aside0.mk (below_step (hbA) hb); clear BK272; clear HB; have BK272 := n0_; have HB := n1_; clear n0_ n1_; (try clear hb); (try clear hb2); (try clear hk); (try clear hi)))
   go_ret2
   exact ⟨rflE, hbA⟩
  ·rw [if_neg c4] at H
   have c4b0 : (a0_0 == 1) = false := beq_eq_false_iff_ne.mpr c4
   have c4b1 : (a0_0 != 1) = true := bne_iff_ne.mpr c4
   by_cases c11 : a0_0 = 2
   ·rw [if_pos c11] at H
    have c11b0 : (a0_0 == 2) = true := beq_iff_eq.mpr c11
    have c11b1 : (a0_0 != 2) = false := bne_eq_false_iff_eq.mpr c11
    clear c11
    simp only [Option.some.injEq, Prod.mk.injEq] at H
    obtain ⟨rfl, rfl⟩ := H
    go_enter Tryz.func127, Tryz.ntmps127
    go_wp2_with (first | ((with_reducible refine gate_dst (N := 1) rfl ?_); refine boxE 1 26 (#[.int .i64 a0_0, .int .i64 a0_1, .string a0_2, .bool a0_3, .int .i64 a0_4]) ?_; intro gb272 hg w12 hbox hb; have n0_ := Aside0.mk (below_step (hbA) hb); have n1_ := Aside0.mk (hbox); have n2_ := Aside0.mk ((by rw [hg]; exact (below_size (hbA)) : w.heap.size ≤ gb272)); have n3_ := n2_; clear HB; have HB := n0_; have BK272 := n1_; have GW272 := n2_; have GE272 := n3_; clear n0_ n1_ n2_ n3_; clear hb hbox hg; obtain ⟨hcz13_0, hcz13_1, hcz13_2, hcz13_3, hcz13_4⟩ := cellsA5 BK272.out; obtain ⟨hfz13_0, hfz13_1, hfz13_2, hfz13_3, hfz13_4⟩ := frozA5 BK272.out) | ((with_reducible refine gate_callee (f := 142) rfl ?_); refine goesL_ (some 8) rfl rfl Tryz.func142 (by kernel_rfl) rfl #[.agg #[.int .i64 a0_0, .int .i64 a0_1, .string a0_2, .bool a0_3, .int .i64 a0_4]] rfl argA ?_; (with_reducible refine (foolscapref04_fault.calls a0_0 a0_1 a0_2 a0_3 a0_4 t273 _ A2.out).mono ?_); rintro e w14 ⟨rfl, hb⟩; refine ⟨_, rfl, ?_⟩; have n0_ := Aside0.mk (blk_below (g := gb272) (o := .cells #[.int .i64 a0_0, .int .i64 a0_1, .string a0_2, .bool a0_3, .int .i64 a0_4] 26 (0, 0)) (have bk_ := BK272.out; bkA) hb); have n1_ := Aside0.mk (below_step (hbA) hb); clear BK272; clear HB; have BK272 := n0_; have HB := n1_; clear n0_ n1_; (try clear hb); (try clear hb2); (try clear hk); (try clear hi); obtain ⟨hcz15_0, hcz15_1, hcz15_2, hcz15_3, hcz15_4⟩ := cellsA5 BK272.out; obtain ⟨hfz15_0, hfz15_1, hfz15_2, hfz15_3, hfz15_4⟩ := frozA5 BK272.out))
    go_ret2
    exact ⟨rflE, hbA⟩
   ·rw [if_neg c11] at H
    have c11b0 : (a0_0 == 2) = false := beq_eq_false_iff_ne.mpr c11
    have c11b1 : (a0_0 != 2) = true := bne_iff_ne.mpr c11
    by_cases c16 : a0_0 = 3
    ·rw [if_pos c16] at H
     have c16b0 : (a0_0 == 3) = true := beq_iff_eq.mpr c16
     have c16b1 : (a0_0 != 3) = false := bne_eq_false_iff_eq.mpr c16
     clear c16
     by_cases c17 : a0_3 = true
     ·subst c17
      have H1 : (some ((⟨#[84, 82, 85, 69]⟩ : ByteArray), 0)) = some (r1, r2) := by rw [if_pos rfl] at H; exact H
      clear H
      have H := H1
      clear H1
      simp only [Option.some.injEq, Prod.mk.injEq] at H
      obtain ⟨rfl, rfl⟩ := H
      go_enter Tryz.func127, Tryz.ntmps127
      go_wp2_with (first | ((with_reducible refine gate_dst (N := 1) rfl ?_); refine boxE 1 26 (#[.int .i64 a0_0, .int .i64 a0_1, .string a0_2, .bool true, .int .i64 a0_4]) ?_; intro gb272 hg w18 hbox hb; have n0_ := Aside0.mk (below_step (hbA) hb); have n1_ := Aside0.mk (hbox); have n2_ := Aside0.mk ((by rw [hg]; exact (below_size (hbA)) : w.heap.size ≤ gb272)); have n3_ := n2_; clear HB; have HB := n0_; have BK272 := n1_; have GW272 := n2_; have GE272 := n3_; clear n0_ n1_ n2_ n3_; clear hb hbox hg; obtain ⟨hcz19_0, hcz19_1, hcz19_2, hcz19_3, hcz19_4⟩ := cellsA5 BK272.out; obtain ⟨hfz19_0, hfz19_1, hfz19_2, hfz19_3, hfz19_4⟩ := frozA5 BK272.out) | ((with_reducible refine gate_callee (f := 142) rfl ?_); refine goesL_ (some 8) rfl rfl Tryz.func142 (by kernel_rfl) rfl #[.agg #[.int .i64 a0_0, .int .i64 a0_1, .string a0_2, .bool true, .int .i64 a0_4]] rfl argA ?_; (with_reducible refine (foolscapref04_fault.calls a0_0 a0_1 a0_2 true a0_4 t273 _ A2.out).mono ?_); rintro e w20 ⟨rfl, hb⟩; refine ⟨_, rfl, ?_⟩; have n0_ := Aside0.mk (blk_below (g := gb272) (o := .cells #[.int .i64 a0_0, .int .i64 a0_1, .string a0_2, .bool true, .int .i64 a0_4] 26 (0, 0)) (have bk_ := BK272.out; bkA) hb); have n1_ := Aside0.mk (below_step (hbA) hb); clear BK272; clear HB; have BK272 := n0_; have HB := n1_; clear n0_ n1_; (try clear hb); (try clear hb2); (try clear hk); (try clear hi); obtain ⟨hcz21_0, hcz21_1, hcz21_2, hcz21_3, hcz21_4⟩ := cellsA5 BK272.out; obtain ⟨hfz21_0, hfz21_1, hfz21_2, hfz21_3, hfz21_4⟩ := frozA5 BK272.out))
      go_ret2
      exact ⟨rflE, hbA⟩
     ·replace c17 := Bool.eq_false_iff.mpr c17
      subst c17
      have H1 : (some ((⟨#[70, 65, 76, 83, 69]⟩ : ByteArray), 0)) = some (r1, r2) := by rw [if_neg (show ¬ (false = true) by decide)] at H; exact H
      clear H
      have H := H1
      clear H1
      simp only [Option.some.injEq, Prod.mk.injEq] at H
      obtain ⟨rfl, rfl⟩ := H
      go_enter Tryz.func127, Tryz.ntmps127
      go_wp2_with (first | ((with_reducible refine gate_dst (N := 1) rfl ?_); refine boxE 1 26 (#[.int .i64 a0_0, .int .i64 a0_1, .string a0_2, .bool false, .int .i64 a0_4]) ?_; intro gb272 hg w22 hbox hb; have n0_ := Aside0.mk (below_step (hbA) hb); have n1_ := Aside0.mk (hbox); have n2_ := Aside0.mk ((by rw [hg]; exact (below_size (hbA)) : w.heap.size ≤ gb272)); have n3_ := n2_; clear HB; have HB := n0_; have BK272 := n1_; have GW272 := n2_; have GE272 := n3_; clear n0_ n1_ n2_ n3_; clear hb hbox hg; obtain ⟨hcz23_0, hcz23_1, hcz23_2, hcz23_3, hcz23_4⟩ := cellsA5 BK272.out; obtain ⟨hfz23_0, hfz23_1, hfz23_2, hfz23_3, hfz23_4⟩ := frozA5 BK272.out) | ((with_reducible refine gate_callee (f := 142) rfl ?_); refine goesL_ (some 8) rfl rfl Tryz.func142 (by kernel_rfl) rfl #[.agg #[.int .i64 a0_0, .int .i64 a0_1, .string a0_2, .bool false, .int .i64 a0_4]] rfl argA ?_; (with_reducible refine (foolscapref04_fault.calls a0_0 a0_1 a0_2 false a0_4 t273 _ A2.out).mono ?_); rintro e w24 ⟨rfl, hb⟩; refine ⟨_, rfl, ?_⟩; have n0_ := Aside0.mk (blk_below (g := gb272) (o := .cells #[.int .i64 a0_0, .int .i64 a0_1, .string a0_2, .bool false, .int .i64 a0_4] 26 (0, 0)) (have bk_ := BK272.out; bkA) hb); have n1_ := Aside0.mk (below_step (hbA) hb); clear BK272; clear HB; have BK272 := n0_; have HB := n1_; clear n0_ n1_; (try clear hb); (try clear hb2); (try clear hk); (try clear hi); obtain ⟨hcz25_0, hcz25_1, hcz25_2, hcz25_3, hcz25_4⟩ := cellsA5 BK272.out; obtain ⟨hfz25_0, hfz25_1, hfz25_2, hfz25_3, hfz25_4⟩ := frozA5 BK272.out))
      go_ret2
      exact ⟨rflE, hbA⟩
    ·rw [if_neg c16] at H
     have c16b0 : (a0_0 == 3) = false := beq_eq_false_iff_ne.mpr c16
     have c16b1 : (a0_0 != 3) = true := bne_iff_ne.mpr c16
     simp only [Option.some.injEq, Prod.mk.injEq] at H
     obtain ⟨rfl, rfl⟩ := H
     go_enter Tryz.func127, Tryz.ntmps127
     go_wp2_with (first | ((with_reducible refine gate_dst (N := 1) rfl ?_); refine boxE 1 26 (#[.int .i64 a0_0, .int .i64 a0_1, .string a0_2, .bool a0_3, .int .i64 a0_4]) ?_; intro gb272 hg w26 hbox hb; have n0_ := Aside0.mk (below_step (hbA) hb); have n1_ := Aside0.mk (hbox); have n2_ := Aside0.mk ((by rw [hg]; exact (below_size (hbA)) : w.heap.size ≤ gb272)); have n3_ := n2_; clear HB; have HB := n0_; have BK272 := n1_; have GW272 := n2_; have GE272 := n3_; clear n0_ n1_ n2_ n3_; clear hb hbox hg; obtain ⟨hcz27_0, hcz27_1, hcz27_2, hcz27_3, hcz27_4⟩ := cellsA5 BK272.out; obtain ⟨hfz27_0, hfz27_1, hfz27_2, hfz27_3, hfz27_4⟩ := frozA5 BK272.out) | ((with_reducible refine gate_callee (f := 142) rfl ?_); refine goesL_ (some 8) rfl rfl Tryz.func142 (by kernel_rfl) rfl #[.agg #[.int .i64 a0_0, .int .i64 a0_1, .string a0_2, .bool a0_3, .int .i64 a0_4]] rfl argA ?_; (with_reducible refine (foolscapref04_fault.calls a0_0 a0_1 a0_2 a0_3 a0_4 t273 _ A2.out).mono ?_); rintro e w28 ⟨rfl, hb⟩; refine ⟨_, rfl, ?_⟩; have n0_ := Aside0.mk (blk_below (g := gb272) (o := .cells #[.int .i64 a0_0, .int .i64 a0_1, .string a0_2, .bool a0_3, .int .i64 a0_4] 26 (0, 0)) (have bk_ := BK272.out; bkA) hb); have n1_ := Aside0.mk (below_step (hbA) hb); clear BK272; clear HB; have BK272 := n0_; have HB := n1_; clear n0_ n1_; (try clear hb); (try clear hb2); (try clear hk); (try clear hi); obtain ⟨hcz29_0, hcz29_1, hcz29_2, hcz29_3, hcz29_4⟩ := cellsA5 BK272.out; obtain ⟨hfz29_0, hfz29_1, hfz29_2, hfz29_3, hfz29_4⟩ := frozA5 BK272.out))
     go_ret2
     exact ⟨rflE, hbA⟩
 ·rw [if_neg c3] at H
  have c3b0 : (t273 == 0) = false := beq_eq_false_iff_ne.mpr c3
  have c3b1 : (t273 != 0) = true := bne_iff_ne.mpr c3
  simp only [Option.some.injEq, Prod.mk.injEq] at H
  obtain ⟨rfl, rfl⟩ := H
  go_enter Tryz.func127, Tryz.ntmps127
  go_wp2_with (first | ((with_reducible refine gate_dst (N := 1) rfl ?_); refine boxE 1 26 (#[.int .i64 a0_0, .int .i64 a0_1, .string a0_2, .bool a0_3, .int .i64 a0_4]) ?_; intro gb272 hg w30 hbox hb; have n0_ := Aside0.mk (below_step (hbA) hb); have n1_ := Aside0.mk (hbox); have n2_ := Aside0.mk ((by rw [hg]; exact (below_size (hbA)) : w.heap.size ≤ gb272)); have n3_ := n2_; clear HB; have HB := n0_; have BK272 := n1_; have GW272 := n2_; have GE272 := n3_; clear n0_ n1_ n2_ n3_; clear hb hbox hg; obtain ⟨hcz31_0, hcz31_1, hcz31_2, hcz31_3, hcz31_4⟩ := cellsA5 BK272.out; obtain ⟨hfz31_0, hfz31_1, hfz31_2, hfz31_3, hfz31_4⟩ := frozA5 BK272.out) | ((with_reducible refine gate_callee (f := 142) rfl ?_); refine goesL_ (some 8) rfl rfl Tryz.func142 (by kernel_rfl) rfl #[.agg #[.int .i64 a0_0, .int .i64 a0_1, .string a0_2, .bool a0_3, .int .i64 a0_4]] rfl argA ?_; (with_reducible refine (foolscapref04_fault.calls a0_0 a0_1 a0_2 a0_3 a0_4 t273 _ A2.out).mono ?_); rintro e w32 ⟨rfl, hb⟩; refine ⟨_, rfl, ?_⟩; have n0_ := Aside0.mk (blk_below (g := gb272) (o := .cells #[.int .i64 a0_0, .int .i64 a0_1, .string a0_2, .bool a0_3, .int .i64 a0_4] 26 (0, 0)) (have bk_ := BK272.out; bkA) hb); have n1_ := Aside0.mk (below_step (hbA) hb); clear BK272; clear HB; have BK272 := n0_; have HB := n1_; clear n0_ n1_; (try clear hb); (try clear hb2); (try clear hk); (try clear hi)))
  go_ret2
  exact ⟨rflE, hbA⟩
def foolscapref04_Show.f (k : Nat) (a0_0 : Int) (a0_1 : Int) (a0_2 : ByteArray) (a0_3 : Bool) (a0_4 : Int) : Option (ByteArray × Int) := (foolscapref04_Right.f a0_0 a0_1 a0_2 a0_3 a0_4).bind fun t277 => (if t277 = true then (if a0_0 = 4 then ((foolscapref04_Names.f).bind fun t278 => (if 0 ≤ a0_4 then (if a0_4 < (t278.length : Int) then (some (rdOf ByteArray.empty t278 a0_4, 0)) else (none)) else (none))) else ((foolscapref04_Words.f k a0_0 a0_1 a0_2 a0_3 a0_4).bind fun bt282 => (some (bt282.1, 0)))) else (some ((⟨#[]⟩ : ByteArray), 2)))
theorem foolscapref04_Show.calls (k : Nat) (a0_0 : Int) (a0_1 : Int) (a0_2 : ByteArray) (a0_3 : Bool) (a0_4 : Int) (r1 : ByteArray) (r2 : Int) (w : World) (h : foolscapref04_Show.f k a0_0 a0_1 a0_2 a0_3 a0_4 = some (r1, r2)) :
  Calls Tryz.prog 108 #[.agg #[.int .i64 a0_0, .int .i64 a0_1, .string a0_2, .bool a0_3, .int .i64 a0_4]] w fun e w' => e = .returned (.tuple #[.string r1, .int .i64 r2]) ∧ Below w.heap.size w w' := by
 have hu26 := Tryz.underlying26
 have HB := Aside0.mk (Below.refl w.heap.size w)
 have H : ((foolscapref04_Right.f a0_0 a0_1 a0_2 a0_3 a0_4).bind fun t277 => (if t277 = true then (if a0_0 = 4 then ((foolscapref04_Names.f).bind fun t278 => (if 0 ≤ a0_4 then (if a0_4 < (t278.length : Int) then (some (rdOf ByteArray.empty t278 a0_4, 0)) else (none)) else (none))) else ((foolscapref04_Words.f k a0_0 a0_1 a0_2 a0_3 a0_4).bind fun bt282 => (some (bt282.1, 0)))) else (some ((⟨#[]⟩ : ByteArray), 2)))) = some (r1, r2) := h
 clear h
 replace H := Option.bind_eq_some_iff.mp H
 obtain ⟨t277, A20, H⟩ := H
 replace H : (if t277 = true then (if a0_0 = 4 then ((foolscapref04_Names.f).bind fun t278 => (if 0 ≤ a0_4 then (if a0_4 < (t278.length : Int) then (some (rdOf ByteArray.empty t278 a0_4, 0)) else (none)) else (none))) else ((foolscapref04_Words.f k a0_0 a0_1 a0_2 a0_3 a0_4).bind fun bt282 => (some (bt282.1, 0)))) else (some ((⟨#[]⟩ : ByteArray), 2))) = some (r1, r2) := H
 have A2 := Aside0.mk A20
 clear A20
 by_cases c3 : t277 = true
 ·subst c3
  have H1 : (if a0_0 = 4 then ((foolscapref04_Names.f).bind fun t278 => (if 0 ≤ a0_4 then (if a0_4 < (t278.length : Int) then (some (rdOf ByteArray.empty t278 a0_4, 0)) else (none)) else (none))) else ((foolscapref04_Words.f k a0_0 a0_1 a0_2 a0_3 a0_4).bind fun bt282 => (some (bt282.1, 0)))) = some (r1, r2) := by rw [if_pos rfl] at H; exact H
  clear H
  have H := H1
  clear H1
  by_cases c4 : a0_0 = 4
  ·rw [if_pos c4] at H
   have c4b0 : (a0_0 == 4) = true := beq_iff_eq.mpr c4
   have c4b1 : (a0_0 != 4) = false := bne_eq_false_iff_eq.mpr c4
   clear c4
   replace H := Option.bind_eq_some_iff.mp H
   obtain ⟨t278, A50, H⟩ := H
   replace H : (if 0 ≤ a0_4 then (if a0_4 < (t278.length : Int) then (some (rdOf ByteArray.empty t278 a0_4, 0)) else (none)) else (none)) = some (r1, r2) := H
   have A5 := Aside0.mk A50
   clear A50
   by_cases c6 : 0 ≤ a0_4
   ·rw [if_pos c6] at H
    have c6b0 : decide (0 ≤ a0_4) = true := decide_eq_true c6
    clear c6
    by_cases c7 : a0_4 < (t278.length : Int)
    ·rw [if_pos c7] at H
     have c7b0 : decide (a0_4 < (t278.length : Int)) = true := decide_eq_true c7
     clear c7
     simp only [Option.some.injEq, Prod.mk.injEq] at H
     obtain ⟨rfl, rfl⟩ := H
     go_enter Tryz.func108, Tryz.ntmps108
     try go_wp2_with (first | ((with_reducible refine gate_dst (N := 1) rfl ?_); refine boxE 1 26 (#[.int .i64 a0_0, .int .i64 a0_1, .string a0_2, .bool a0_3, .int .i64 a0_4]) ?_; intro gb276 hg w8 hbox hb; have n0_ := Aside0.mk (below_step (hbA) hb); have n1_ := Aside0.mk (hbox); have n2_ := Aside0.mk ((by rw [hg]; exact (below_size (hbA)) : w.heap.size ≤ gb276)); have n3_ := n2_; clear HB; have HB := n0_; have BK276 := n1_; have GW276 := n2_; have GE276 := n3_; clear n0_ n1_ n2_ n3_; clear hb hbox hg; obtain ⟨hcz9_0, hcz9_1, hcz9_2, hcz9_3, hcz9_4⟩ := cellsA5 BK276.out; obtain ⟨hfz9_0, hfz9_1, hfz9_2, hfz9_3, hfz9_4⟩ := frozA5 BK276.out) | ((with_reducible refine gate_callee (f := 65) rfl ?_); refine goesL_ (some 7) rfl rfl Tryz.func65 (by kernel_rfl) rfl #[.agg #[.int .i64 a0_0, .int .i64 a0_1, .string a0_2, .bool a0_3, .int .i64 a0_4]] rfl argA ?_; (with_reducible refine (foolscapref04_Right.calls a0_0 a0_1 a0_2 a0_3 a0_4 true _ A2.out).mono ?_); rintro e w10 ⟨rfl, hb⟩; refine ⟨_, rfl, ?_⟩; have n0_ := Aside0.mk (blk_below (g := gb276) (o := .cells #[.int .i64 a0_0, .int .i64 a0_1, .string a0_2, .bool a0_3, .int .i64 a0_4] 26 (0, 0)) (have bk_ := BK276.out; bkA) hb); have n1_ := Aside0.mk (below_step (hbA) hb); clear BK276; clear HB; have BK276 := n0_; have HB := n1_; clear n0_ n1_; (try clear hb); (try clear hb2); (try clear hk); (try clear hi); obtain ⟨hcz11_0, hcz11_1, hcz11_2, hcz11_3, hcz11_4⟩ := cellsA5 BK276.out; obtain ⟨hfz11_0, hfz11_1, hfz11_2, hfz11_3, hfz11_4⟩ := frozA5 BK276.out))
     have n0_ := Aside0.mk (bqY BK276.out)
     have n1_ := Aside0.mk (bqD HB.out)
     clear BK276
     clear HB
     have BK276 := n0_
     have HB := n1_
     clear n0_ n1_
     refine start_ (n := 7) (S := fun w' => w'.cell? ⟨gb276, 0, none⟩ = some (.int .i64 a0_0) ∧ w'.cell? ⟨gb276, 1, none⟩ = some (.int .i64 a0_1) ∧ w'.cell? ⟨gb276, 2, none⟩ = some (.string a0_2) ∧ w'.cell? ⟨gb276, 3, none⟩ = some (.bool a0_3) ∧ w'.cell? ⟨gb276, 4, none⟩ = some (.int .i64 a0_4)) (ds := []) (Array.replicate 7 false) (by kernel_rfl) rfl rfl ⟨(blk_cell BK276.out 0).trans rfl, (blk_cell BK276.out 1).trans rfl, (blk_cell BK276.out 2).trans rfl, (blk_cell BK276.out 3).trans rfl, (blk_cell BK276.out 4).trans rfl⟩ (fun hHeld => ?_)
     generalize w10.drew = w12 at BK276 HB hHeld ⊢
     refine pure_ (i := 1) (N := some 13) (v := ?_) (a' := ?_) #[false, true, false, false, false, false, false] rfl rfl (by kernel_rfl) (fun _ _ _ h => h) (Or.inl ⟨by rfl, ?_⟩) ?_ ?_
     rotate_left
     ·intro w'
      go_simp
      with_reducible rfl
     rotate_left
     ·simp only [Act.put, List.setIfInBounds_toArray, List.set_cons_zero, List.set_cons_succ, i64_w, i32_w]
      rfl
     refine take_ (i := 2) (N := some 14) (v := ?_) (a' := ?_) #[false, true, true, false, false, false, false] rfl rfl (by kernel_rfl) (fun _ _ _ h => h) (Or.inl ⟨by rfl, ?_⟩) hHeld ?_ ?_
     rotate_left
     ·rintro w' ⟨s0, s1, s2, s3, s4⟩
      go_simp
      with_reducible rfl
     rotate_left
     ·simp only [Act.put, List.setIfInBounds_toArray, List.set_cons_zero, List.set_cons_succ, i64_w, i32_w]
      rfl
     refine one_ (i := 0) (N := some 12) #[true, true, true, false, false, false, false] rfl rfl (by kernel_rfl) (by decide) (fun K hK => ?_)
     refine goes_ Tryz.func126 (by kernel_rfl) rfl #[] (by rfl) rfl rfl argA ?_
     with_reducible refine (foolscapref04_Names.calls  t278 _ A5.out).mono ?_
     rintro e w13 ⟨v279, rfl, ho0, hb⟩
     refine ⟨_, rfl, ?_⟩
     have n0_ := Aside0.mk (Kd.R_lower ho0 (below_size (hbA)))
     have n1_ := Aside0.mk (blk_below (g := gb276) (o := .cells #[.int .i64 a0_0, .int .i64 a0_1, .string a0_2, .bool a0_3, .int .i64 a0_4] 26 (0, 0)) (have bk_ := BK276.out; bkA) hb)
     have n2_ := Aside0.mk (below_step (hbA) hb)
     clear BK276
     clear HB
     have HO280 := n0_
     have BK276 := n1_
     have HB := n2_
     clear n0_ n1_ n2_
     (try clear hb)
     (try clear hb2)
     (try clear hk)
     (try clear hi)
     (try clear ho0)
     obtain ⟨Ao14, co14, eo14⟩ := Kd.R_slice HO280.out
     (first | subst eo14 | (injection eo14 with f1_ f2_ f3_; have f4_ := f1_.symm; have f5_ := f3_.symm; clear f1_ f2_ f3_; subst f4_; subst f5_))
     have p281 : 0 ≤ (a0_4 : Int) := of_decide_eq_true kA
     have q281 : a0_4 < (t278.length : Int) := of_decide_eq_true kA
     obtain ⟨ad281, e281, hx281_0⟩ := Kd.at_string (Kd.R_reads' HO280.out).2.2 a0_4 p281 q281
     cases e281
     replace p281 := eq_true p281
     replace q281 := eq_true q281
     refine hK.out _ _ ⟨(blk_cell BK276.out 0).trans rfl, (blk_cell BK276.out 1).trans rfl, (blk_cell BK276.out 2).trans rfl, (blk_cell BK276.out 3).trans rfl, (blk_cell BK276.out 4).trans rfl⟩ (fun hHeld => ?_)
     clear hK K
     refine norm_ (a' := ?_) ?_ ?_
     rotate_left
     ·show Act.put _ (some 12) _ = _
      simp only [Act.put, List.setIfInBounds_toArray, List.set_cons_zero, List.set_cons_succ, i64_w, i32_w]
      rfl
     refine pure_ (i := 3) (N := some 15) (v := ?_) (a' := ?_) #[true, true, true, true, false, false, false] rfl rfl (by kernel_rfl) (fun _ _ _ h => h) (Or.inl ⟨by rfl, ?_⟩) ?_ ?_
     rotate_left
     ·intro w'
      go_simp
      with_reducible rfl
     rotate_left
     ·simp only [Act.put, List.setIfInBounds_toArray, List.set_cons_zero, List.set_cons_succ, i64_w, i32_w]
      rfl
     refine oneY_ (i := 4) (N := some 16) (v := ?_) (a' := ?_) #[true, true, true, true, true, false, false] rfl rfl (by kernel_rfl) (by decide) (by rfl) ?_ hHeld ?_ ?_
     rotate_left
     ·go_simp
      with_reducible rfl
     rotate_left
     ·simp only [Act.put, List.setIfInBounds_toArray, List.set_cons_zero, List.set_cons_succ, i64_w, i32_w]
      rfl
     refine pure_ (i := 5) (N := some 2) (v := ?_) (a' := ?_) #[true, true, true, true, true, true, false] rfl rfl (by kernel_rfl) (fun _ _ _ h => h) (Or.inl ⟨by rfl, ?_⟩) ?_ ?_
     rotate_left
     ·intro w'
      go_simp
      with_reducible rfl
     rotate_left
     ·simp only [Act.put, List.setIfInBounds_toArray, List.set_cons_zero, List.set_cons_succ, i64_w, i32_w]
      rfl
     refine pure_ (i := 6) (N := some 3) (v := ?_) (a' := ?_) #[true, true, true, true, true, true, true] rfl rfl (by kernel_rfl) (fun _ _ _ h => h) (Or.inl ⟨by rfl, ?_⟩) ?_ ?_
     rotate_left
     ·intro w'
      go_simp
      with_reducible rfl
     rotate_left
     ·simp only [Act.put, List.setIfInBounds_toArray, List.set_cons_zero, List.set_cons_succ, i64_w, i32_w]
      rfl
     refine done_ (by kernel_rfl) ?_
     try go_wp2
     go_ret2
     exact ⟨rflE, hbA⟩
    ·rw [if_neg c7] at H
     exact absurd H (by simp)
   ·rw [if_neg c6] at H
    exact absurd H (by simp)
  ·rw [if_neg c4] at H
   have c4b0 : (a0_0 == 4) = false := beq_eq_false_iff_ne.mpr c4
   have c4b1 : (a0_0 != 4) = true := bne_iff_ne.mpr c4
   replace H := Option.bind_eq_some_iff.mp H
   obtain ⟨⟨t282, t283⟩, A150, H⟩ := H
   replace H : (some (t282, 0)) = some (r1, r2) := H
   have A15 := Aside0.mk A150
   clear A150
   simp only [Option.some.injEq, Prod.mk.injEq] at H
   obtain ⟨rfl, rfl⟩ := H
   go_enter Tryz.func108, Tryz.ntmps108
   go_wp2_with (first | ((with_reducible refine gate_dst (N := 1) rfl ?_); refine boxE 1 26 (#[.int .i64 a0_0, .int .i64 a0_1, .string a0_2, .bool a0_3, .int .i64 a0_4]) ?_; intro gb276 hg w16 hbox hb; have n0_ := Aside0.mk (below_step (hbA) hb); have n1_ := Aside0.mk (hbox); have n2_ := Aside0.mk ((by rw [hg]; exact (below_size (hbA)) : w.heap.size ≤ gb276)); have n3_ := n2_; clear HB; have HB := n0_; have BK276 := n1_; have GW276 := n2_; have GE276 := n3_; clear n0_ n1_ n2_ n3_; clear hb hbox hg; obtain ⟨hcz17_0, hcz17_1, hcz17_2, hcz17_3, hcz17_4⟩ := cellsA5 BK276.out; obtain ⟨hfz17_0, hfz17_1, hfz17_2, hfz17_3, hfz17_4⟩ := frozA5 BK276.out) | ((with_reducible refine gate_callee (f := 65) rfl ?_); refine goesL_ (some 7) rfl rfl Tryz.func65 (by kernel_rfl) rfl #[.agg #[.int .i64 a0_0, .int .i64 a0_1, .string a0_2, .bool a0_3, .int .i64 a0_4]] rfl argA ?_; (with_reducible refine (foolscapref04_Right.calls a0_0 a0_1 a0_2 a0_3 a0_4 true _ A2.out).mono ?_); rintro e w18 ⟨rfl, hb⟩; refine ⟨_, rfl, ?_⟩; have n0_ := Aside0.mk (blk_below (g := gb276) (o := .cells #[.int .i64 a0_0, .int .i64 a0_1, .string a0_2, .bool a0_3, .int .i64 a0_4] 26 (0, 0)) (have bk_ := BK276.out; bkA) hb); have n1_ := Aside0.mk (below_step (hbA) hb); clear BK276; clear HB; have BK276 := n0_; have HB := n1_; clear n0_ n1_; (try clear hb); (try clear hb2); (try clear hk); (try clear hi); obtain ⟨hcz19_0, hcz19_1, hcz19_2, hcz19_3, hcz19_4⟩ := cellsA5 BK276.out; obtain ⟨hfz19_0, hfz19_1, hfz19_2, hfz19_3, hfz19_4⟩ := frozA5 BK276.out) | ((with_reducible refine gate_callee (f := 127) rfl ?_); refine goesL_ (some 19) rfl rfl Tryz.func127 (by kernel_rfl) rfl #[.agg #[.int .i64 a0_0, .int .i64 a0_1, .string a0_2, .bool a0_3, .int .i64 a0_4]] rfl argA ?_; (with_reducible refine (foolscapref04_Words.calls k a0_0 a0_1 a0_2 a0_3 a0_4 t282 t283 _ A15.out).mono ?_); rintro e w20 ⟨rfl, hb⟩; refine ⟨_, rfl, ?_⟩; have n0_ := Aside0.mk (blk_below (g := gb276) (o := .cells #[.int .i64 a0_0, .int .i64 a0_1, .string a0_2, .bool a0_3, .int .i64 a0_4] 26 (0, 0)) (have bk_ := BK276.out; bkA) hb); have n1_ := Aside0.mk (below_step (hbA) hb); clear BK276; clear HB; have BK276 := n0_; have HB := n1_; clear n0_ n1_; (try clear hb); (try clear hb2); (try clear hk); (try clear hi)))
   go_ret2
   exact ⟨rflE, hbA⟩
 ·replace c3 := Bool.eq_false_iff.mpr c3
  subst c3
  have H1 : (some ((⟨#[]⟩ : ByteArray), 2)) = some (r1, r2) := by rw [if_neg (show ¬ (false = true) by decide)] at H; exact H
  clear H
  have H := H1
  clear H1
  simp only [Option.some.injEq, Prod.mk.injEq] at H
  obtain ⟨rfl, rfl⟩ := H
  go_enter Tryz.func108, Tryz.ntmps108
  go_wp2_with (first | ((with_reducible refine gate_dst (N := 1) rfl ?_); refine boxE 1 26 (#[.int .i64 a0_0, .int .i64 a0_1, .string a0_2, .bool a0_3, .int .i64 a0_4]) ?_; intro gb276 hg w21 hbox hb; have n0_ := Aside0.mk (below_step (hbA) hb); have n1_ := Aside0.mk (hbox); have n2_ := Aside0.mk ((by rw [hg]; exact (below_size (hbA)) : w.heap.size ≤ gb276)); have n3_ := n2_; clear HB; have HB := n0_; have BK276 := n1_; have GW276 := n2_; have GE276 := n3_; clear n0_ n1_ n2_ n3_; clear hb hbox hg; obtain ⟨hcz22_0, hcz22_1, hcz22_2, hcz22_3, hcz22_4⟩ := cellsA5 BK276.out; obtain ⟨hfz22_0, hfz22_1, hfz22_2, hfz22_3, hfz22_4⟩ := frozA5 BK276.out) | ((with_reducible refine gate_callee (f := 65) rfl ?_); refine goesL_ (some 7) rfl rfl Tryz.func65 (by kernel_rfl) rfl #[.agg #[.int .i64 a0_0, .int .i64 a0_1, .string a0_2, .bool a0_3, .int .i64 a0_4]] rfl argA ?_; (with_reducible refine (foolscapref04_Right.calls a0_0 a0_1 a0_2 a0_3 a0_4 false _ A2.out).mono ?_); rintro e w23 ⟨rfl, hb⟩; refine ⟨_, rfl, ?_⟩; have n0_ := Aside0.mk (blk_below (g := gb276) (o := .cells #[.int .i64 a0_0, .int .i64 a0_1, .string a0_2, .bool a0_3, .int .i64 a0_4] 26 (0, 0)) (have bk_ := BK276.out; bkA) hb); have n1_ := Aside0.mk (below_step (hbA) hb); clear BK276; clear HB; have BK276 := n0_; have HB := n1_; clear n0_ n1_; (try clear hb); (try clear hb2); (try clear hk); (try clear hi)))
  go_ret2
  exact ⟨rflE, hbA⟩
mutual
def foolscapref05_Letters.j0 : Nat → Int → Bool → Option (ByteArray × Int)
 | 0, _, _ => none
 | k + 1, x0, x14 => if x14 = true then (some ((⟨#[]⟩ : ByteArray), 2)) else (foolscapref05_Letters.l0 k (wrap64 (x0 - 1)) 1 26)
def foolscapref05_Letters.l0 : Nat → Int → Int → Int → Option (ByteArray × Int)
 | 0, _, _, _ => none
 | k + 1, x4, x5, x6 => if x4 ≥ x6 then (foolscapref05_Letters.l0 k (wrap64 (x4 - x6)) (wrap64 (x5 + 1)) (wrap64 (26 * x6))) else (foolscapref05_Letters.l1 k x4 x5 (⟨#[]⟩ : ByteArray) 0)
def foolscapref05_Letters.l1 : Nat → Int → Int → ByteArray → Int → Option (ByteArray × Int)
 | 0, _, _, _, _ => none
 | k + 1, x4, x5, x7, x8 => if x8 < x5 then ((some (([(wrap64 (65 + (Int.tmod x4 26))) % 256] : List Int) : List Int)).bind fun y284 => (if (strOfNums y284).size + x7.size ≤ 9223372036854775807 then (foolscapref05_Letters.l1 k (wrap64 (Int.tdiv x4 26)) x5 ((strOfNums y284) ++ x7) (wrap64 (x8 + 1))) else (none))) else (some (x7, 0))
end
def foolscapref05_Letters.f (k : Nat) (a0 : Int) : Option (ByteArray × Int) := if a0 < 1 then (foolscapref05_Letters.j0 k a0 true) else (foolscapref05_Letters.j0 k a0 (decide (a0 > 16384)))
theorem foolscapref05_Letters.calls (k : Nat) (a0 : Int) (r1 : ByteArray) (r2 : Int) (w : World) (h : foolscapref05_Letters.f k a0 = some (r1, r2)) :
  Calls Tryz.prog 128 #[.int .i64 a0] w fun e w' => e = .returned (.tuple #[.string r1, .int .i64 r2]) ∧ Below w.heap.size w w' := by
 have HB := Aside0.mk (Below.refl w.heap.size w)
 have H : (if a0 < 1 then (foolscapref05_Letters.j0 k a0 true) else (foolscapref05_Letters.j0 k a0 (decide (a0 > 16384)))) = some (r1, r2) := h
 clear h
 have HC2 := Aside0.mk H
 clear H
 go_enter Tryz.func128, Tryz.ntmps128
 go_upto_region 1 with (fail)
 go_cut [14] (fun v14 wc => ∃ (kq : Nat) (x14_1 : Bool), v14 = .bool x14_1 ∧ Aside0 (foolscapref05_Letters.j0 kq a0 x14_1 = some (r1, r2)) ∧ Aside0 (kq ≤ k) ∧ Aside0 (Below w.heap.size w wc))
 case first =>
  have H := HC2.out
  clear HC2
  by_cases c3 : a0 < 1
  ·rw [if_pos c3] at H
   have c3b0 : decide (a0 < 1) = true := decide_eq_true c3
   clear c3
   (first | rw [c3b0] | (simp only [i64_w, i32_w]; rw [c3b0]) | skip)
   have H' := Aside0.mk H
   clear H
   go_wp2
   go_meet
   case rel => exact ⟨_, (true), (rflS), H', ⟨by first | omega | exact Nat.le_refl _⟩, ⟨hbA⟩⟩
  ·rw [if_neg c3] at H
   have c3b0 : decide (a0 < 1) = false := decide_eq_false c3
   clear c3
   (first | rw [c3b0] | (simp only [i64_w, i32_w]; rw [c3b0]) | skip)
   have H' := Aside0.mk H
   clear H
   go_wp2
   go_meet
   case rel => exact ⟨_, (decide (a0 > 16384)), (rflS), H', ⟨by first | omega | exact Nat.le_refl _⟩, ⟨hbA⟩⟩
 case rest =>
  clear HC2
  try clear c1
  try clear p2
  try clear c3
  try clear c3b0
  obtain ⟨kq, x14_1, rfl, HA, HJ1, HB⟩ := hcut
  cases kq with
  | zero => exact absurd HA.out (by simp [foolscapref05_Letters.j0])
  | succ kj1 =>
   have H := HA.out
   clear HA
   simp only [foolscapref05_Letters.j0] at H
   by_cases c4 : x14_1 = true
   ·subst c4
    have H1 : (some ((⟨#[]⟩ : ByteArray), 2)) = some (r1, r2) := by rw [if_pos rfl] at H; exact H
    clear H
    have H := H1
    clear H1
    simp only [Option.some.injEq, Prod.mk.injEq] at H
    obtain ⟨rfl, rfl⟩ := H
    go_wp2
    go_ret2
    exact ⟨rflE, hbA⟩
   ·replace c4 := Bool.eq_false_iff.mpr c4
    subst c4
    have H1 : (foolscapref05_Letters.l0 kj1 (wrap64 (a0 - 1)) 1 26) = some (r1, r2) := by rw [if_neg (show ¬ (false = true) by decide)] at H; exact H
    clear H
    have H := H1
    clear H1
    have H' := Aside0.mk H
    clear H
    go_wp2
    go_loopg [4, 5, 6] kj1 (fun kq v4 v5 v6 w' => ∃ (x4_2 : Int) (x5_2 : Int) (x6_2 : Int), v4 = .int .i64 x4_2 ∧ v5 = .int .i64 x5_2 ∧ v6 = .int .i64 x6_2 ∧ Aside0 (foolscapref05_Letters.l0 kq x4_2 x5_2 x6_2 = some (r1, r2)) ∧ Aside0 (kq ≤ kj1) ∧ Aside0 (Below w.heap.size w w'))
    case atStart => exact ⟨(wrap64 (a0 - 1)), (1), (26), (rflS), (rflS), (rflS), H', ⟨Nat.le_refl _⟩, ⟨hbA⟩⟩
    case round =>
     clear H'
     try clear c1
     try clear p2
     try clear c3
     try clear c3b0
     try clear c4
     try clear p2
     obtain ⟨x4_2, x5_2, x6_2, rfl, rfl, rfl, HA, HK2, HB⟩ := hrel
     cases gk with
     | zero => exact absurd HA.out (by simp [foolscapref05_Letters.l0])
     | succ k2 =>
      have H := HA.out
      clear HA
      simp only [foolscapref05_Letters.l0] at H
      by_cases c5 : x4_2 ≥ x6_2
      ·rw [if_pos c5] at H
       have c5b0 : decide (x6_2 ≤ x4_2) = true := decide_eq_true c5
       clear c5
       have H' := Aside0.mk H
       clear H
       go_wp2
       go_roundg k2
       case measure => have := HJ1.out; have := HK2.out; omega
       case rel => exact ⟨(wrap64 (x4_2 - x6_2)), (wrap64 (x5_2 + 1)), (wrap64 (26 * x6_2)), (rflS), (rflS), (rflS), H', ⟨by have := HJ1.out; have := HK2.out; omega⟩, ⟨hbA⟩⟩
      ·rw [if_neg c5] at H
       have c5b0 : decide (x6_2 ≤ x4_2) = false := decide_eq_false c5
       clear c5
       have H' := Aside0.mk H
       clear H
       go_wp2
       go_loopg [4, 7, 8] k2 (fun kq v4 v7 v8 w' => ∃ (x4_3 : Int) (x7_3 : ByteArray) (x8_3 : Int), v4 = .int .i64 x4_3 ∧ v7 = .string x7_3 ∧ v8 = .int .i64 x8_3 ∧ Aside0 (foolscapref05_Letters.l1 kq x4_3 x5_2 x7_3 x8_3 = some (r1, r2)) ∧ Aside0 (kq ≤ k2) ∧ Aside0 (Below w.heap.size w w'))
       case atStart => exact ⟨(x4_2), ((⟨#[]⟩ : ByteArray)), (0), (rflS), (rflS), (rflS), H', ⟨Nat.le_refl _⟩, ⟨hbA⟩⟩
       case round =>
        clear H'
        try clear c1
        try clear p2
        try clear c3
        try clear c3b0
        try clear c4
        try clear c5
        try clear c5b0
        try clear p2
        obtain ⟨x4_3, x7_3, x8_3, rfl, rfl, rfl, HA, HK3, HB⟩ := hrel
        cases gk with
        | zero => exact absurd HA.out (by simp [foolscapref05_Letters.l1])
        | succ k3 =>
         have H := HA.out
         clear HA
         simp only [foolscapref05_Letters.l1] at H
         by_cases c6 : x8_3 < x5_2
         ·rw [if_pos c6] at H
          have c6b0 : decide (x8_3 < x5_2) = true := decide_eq_true c6
          clear c6
          obtain ⟨y284, hy284⟩ : ∃ y_ : List Int, y_ = (([(wrap64 (65 + (Int.tmod x4_3 26))) % 256] : List Int)) := ⟨_, rfl⟩
          replace H : (if (strOfNums y284).size + x7_3.size ≤ 9223372036854775807 then (foolscapref05_Letters.l1 k3 (wrap64 (Int.tdiv x4_3 26)) x5_2 ((strOfNums y284) ++ x7_3) (wrap64 (x8_3 + 1))) else (none)) = some (r1, r2) := by first | (rw [hy284]; with_reducible exact H) | (have H2_ := (Option.bind_some _ _).symm.trans H; rw [hy284]; with_reducible exact H2_) | (have H2_ := (Option.bind_some _ _).symm.trans H; with_reducible exact H2_) | with_reducible exact H | (rw [hy284]; exact H) | exact H
          have Ny284 := Aside0.mk hy284
          clear hy284
          by_cases c7 : (strOfNums y284).size + x7_3.size ≤ 9223372036854775807
          ·rw [if_pos c7] at H
           have c7b0 := eq_true c7
           have c7b1 : decide ((strOfNums y284).size + x7_3.size ≤ 9223372036854775807) = true := decide_eq_true c7
           try have c7b2 : (9223372036854775807 < (strOfNums y284).size + x7_3.size) = False := eq_false (Nat.not_lt.2 c7)
           have H' := Aside0.mk H
           clear H
           go_wp2_with (first | ((with_reducible refine gate_dst (N := 36) rfl ?_); refine Kd.R_lit (Kd.int .u8) _ 5 ?hg (N := 36) ?hd (xs := ([(wrap64 (65 + (Int.tmod x4_3 26))) % 256] : List Int)) (inner := [.int .u8 ((wrap64 (65 + (Int.tmod x4_3 26))) % 256)]) (ok := fun _ => True) (okp := fun _ => True) ?hr ?hp (fun _ hk => hk) trivial (Below.refl _ _) (Nat.le_refl _) (by simp) ?_; (case hd => rfl); (case hg => rfl); (case hr => first | (go_simp; done) | (go_simp; rfl)); (case hp => exact (Reps.one (show Kd.M (Kd.int .u8) _ _ _ ((wrap64 (65 + (Int.tmod x4_3 26))) % 256) [.int .u8 ((wrap64 (65 + (Int.tmod x4_3 26))) % 256)] from rfl) (Reps.none _ _))); intro v285 w8 ho9 hb hg_ hnew_; clear hg_ hnew_; (first | rw [← Ny284.out] at ho9 | (simp only [Int.reduceToNat] at ho9; rw [← Ny284.out] at ho9)); have n0_ := Aside0.mk (Kd.R_lower ho9 (below_size (hbA))); have n1_ := Aside0.mk (below_step (hbA) hb); clear HB; have HO286 := n0_; have HB := n1_; clear n0_ n1_; clear hb ho9; have hcv10 := own_string (P := Tryz.prog) Tryz.underlying135 Tryz.underlying5 Tryz.underlying9 (Kd.own_of_R HO286.out)))
           go_roundg k3
           case measure => have := HJ1.out; have := HK2.out; have := HK3.out; omega
           case rel => exact ⟨(wrap64 (Int.tdiv x4_3 26)), ((strOfNums y284) ++ x7_3), (wrap64 (x8_3 + 1)), (rflS), (rflS), (rflS), H', ⟨by have := HJ1.out; have := HK2.out; have := HK3.out; omega⟩, ⟨hbA⟩⟩
          ·rw [if_neg c7] at H
           exact absurd H (by simp)
         ·rw [if_neg c6] at H
          have c6b0 : decide (x8_3 < x5_2) = false := decide_eq_false c6
          clear c6
          simp only [Option.some.injEq, Prod.mk.injEq] at H
          obtain ⟨rfl, rfl⟩ := H
          go_wp2
          go_ret2
          exact ⟨rflE, hbA⟩
def foolscapref05_Print.f (k : Nat) (a0_0 : Int) (a0_1 : Int) (a0_2 : Bool) (a0_3 : Bool) : Option (ByteArray × Int) := (foolscapref05_Place.f a0_0 a0_1).bind fun t288 => (if t288 = true then ((foolscapref05_Letters.f k a0_1).bind fun bt289 => (if a0_3 = true then (if 1 + bt289.1.size ≤ 9223372036854775807 then (if a0_2 = true then (if ((⟨#[36]⟩ : ByteArray) ++ bt289.1).size + 1 ≤ 9223372036854775807 then ((foolscapref01_Digits.f k a0_0).bind fun t291 => (if (((⟨#[36]⟩ : ByteArray) ++ bt289.1) ++ (⟨#[36]⟩ : ByteArray)).size + t291.size ≤ 9223372036854775807 then (some ((((⟨#[36]⟩ : ByteArray) ++ bt289.1) ++ (⟨#[36]⟩ : ByteArray)) ++ t291, 0)) else (none))) else (none)) else ((foolscapref01_Digits.f k a0_0).bind fun t292 => (if ((⟨#[36]⟩ : ByteArray) ++ bt289.1).size + t292.size ≤ 9223372036854775807 then (some (((⟨#[36]⟩ : ByteArray) ++ bt289.1) ++ t292, 0)) else (none)))) else (none)) else (if a0_2 = true then (if bt289.1.size + 1 ≤ 9223372036854775807 then ((foolscapref01_Digits.f k a0_0).bind fun t293 => (if (bt289.1 ++ (⟨#[36]⟩ : ByteArray)).size + t293.size ≤ 9223372036854775807 then (some ((bt289.1 ++ (⟨#[36]⟩ : ByteArray)) ++ t293, 0)) else (none))) else (none)) else ((foolscapref01_Digits.f k a0_0).bind fun t294 => (if bt289.1.size + t294.size ≤ 9223372036854775807 then (some (bt289.1 ++ t294, 0)) else (none)))))) else (some ((⟨#[]⟩ : ByteArray), 2)))
theorem foolscapref05_Print.calls (k : Nat) (a0_0 : Int) (a0_1 : Int) (a0_2 : Bool) (a0_3 : Bool) (r1 : ByteArray) (r2 : Int) (w : World) (h : foolscapref05_Print.f k a0_0 a0_1 a0_2 a0_3 = some (r1, r2)) :
  Calls Tryz.prog 109 #[.agg #[.int .i64 a0_0, .int .i64 a0_1, .bool a0_2, .bool a0_3]] w fun e w' => e = .returned (.tuple #[.string r1, .int .i64 r2]) ∧ Below w.heap.size w w' := by
 have hu30 := Tryz.underlying30
 have hu28 := Tryz.underlying28
 have HB := Aside0.mk (Below.refl w.heap.size w)
 have H : ((foolscapref05_Place.f a0_0 a0_1).bind fun t288 => (if t288 = true then ((foolscapref05_Letters.f k a0_1).bind fun bt289 => (if a0_3 = true then (if 1 + bt289.1.size ≤ 9223372036854775807 then (if a0_2 = true then (if ((⟨#[36]⟩ : ByteArray) ++ bt289.1).size + 1 ≤ 9223372036854775807 then ((foolscapref01_Digits.f k a0_0).bind fun t291 => (if (((⟨#[36]⟩ : ByteArray) ++ bt289.1) ++ (⟨#[36]⟩ : ByteArray)).size + t291.size ≤ 9223372036854775807 then (some ((((⟨#[36]⟩ : ByteArray) ++ bt289.1) ++ (⟨#[36]⟩ : ByteArray)) ++ t291, 0)) else (none))) else (none)) else ((foolscapref01_Digits.f k a0_0).bind fun t292 => (if ((⟨#[36]⟩ : ByteArray) ++ bt289.1).size + t292.size ≤ 9223372036854775807 then (some (((⟨#[36]⟩ : ByteArray) ++ bt289.1) ++ t292, 0)) else (none)))) else (none)) else (if a0_2 = true then (if bt289.1.size + 1 ≤ 9223372036854775807 then ((foolscapref01_Digits.f k a0_0).bind fun t293 => (if (bt289.1 ++ (⟨#[36]⟩ : ByteArray)).size + t293.size ≤ 9223372036854775807 then (some ((bt289.1 ++ (⟨#[36]⟩ : ByteArray)) ++ t293, 0)) else (none))) else (none)) else ((foolscapref01_Digits.f k a0_0).bind fun t294 => (if bt289.1.size + t294.size ≤ 9223372036854775807 then (some (bt289.1 ++ t294, 0)) else (none)))))) else (some ((⟨#[]⟩ : ByteArray), 2)))) = some (r1, r2) := h
 clear h
 replace H := Option.bind_eq_some_iff.mp H
 obtain ⟨t288, A20, H⟩ := H
 replace H : (if t288 = true then ((foolscapref05_Letters.f k a0_1).bind fun bt289 => (if a0_3 = true then (if 1 + bt289.1.size ≤ 9223372036854775807 then (if a0_2 = true then (if ((⟨#[36]⟩ : ByteArray) ++ bt289.1).size + 1 ≤ 9223372036854775807 then ((foolscapref01_Digits.f k a0_0).bind fun t291 => (if (((⟨#[36]⟩ : ByteArray) ++ bt289.1) ++ (⟨#[36]⟩ : ByteArray)).size + t291.size ≤ 9223372036854775807 then (some ((((⟨#[36]⟩ : ByteArray) ++ bt289.1) ++ (⟨#[36]⟩ : ByteArray)) ++ t291, 0)) else (none))) else (none)) else ((foolscapref01_Digits.f k a0_0).bind fun t292 => (if ((⟨#[36]⟩ : ByteArray) ++ bt289.1).size + t292.size ≤ 9223372036854775807 then (some (((⟨#[36]⟩ : ByteArray) ++ bt289.1) ++ t292, 0)) else (none)))) else (none)) else (if a0_2 = true then (if bt289.1.size + 1 ≤ 9223372036854775807 then ((foolscapref01_Digits.f k a0_0).bind fun t293 => (if (bt289.1 ++ (⟨#[36]⟩ : ByteArray)).size + t293.size ≤ 9223372036854775807 then (some ((bt289.1 ++ (⟨#[36]⟩ : ByteArray)) ++ t293, 0)) else (none))) else (none)) else ((foolscapref01_Digits.f k a0_0).bind fun t294 => (if bt289.1.size + t294.size ≤ 9223372036854775807 then (some (bt289.1 ++ t294, 0)) else (none)))))) else (some ((⟨#[]⟩ : ByteArray), 2))) = some (r1, r2) := H
 have A2 := Aside0.mk A20
 clear A20
 by_cases c3 : t288 = true
 ·subst c3
  have H1 : ((foolscapref05_Letters.f k a0_1).bind fun bt289 => (if a0_3 = true then (if 1 + bt289.1.size ≤ 9223372036854775807 then (if a0_2 = true then (if ((⟨#[36]⟩ : ByteArray) ++ bt289.1).size + 1 ≤ 9223372036854775807 then ((foolscapref01_Digits.f k a0_0).bind fun t291 => (if (((⟨#[36]⟩ : ByteArray) ++ bt289.1) ++ (⟨#[36]⟩ : ByteArray)).size + t291.size ≤ 9223372036854775807 then (some ((((⟨#[36]⟩ : ByteArray) ++ bt289.1) ++ (⟨#[36]⟩ : ByteArray)) ++ t291, 0)) else (none))) else (none)) else ((foolscapref01_Digits.f k a0_0).bind fun t292 => (if ((⟨#[36]⟩ : ByteArray) ++ bt289.1).size + t292.size ≤ 9223372036854775807 then (some (((⟨#[36]⟩ : ByteArray) ++ bt289.1) ++ t292, 0)) else (none)))) else (none)) else (if a0_2 = true then (if bt289.1.size + 1 ≤ 9223372036854775807 then ((foolscapref01_Digits.f k a0_0).bind fun t293 => (if (bt289.1 ++ (⟨#[36]⟩ : ByteArray)).size + t293.size ≤ 9223372036854775807 then (some ((bt289.1 ++ (⟨#[36]⟩ : ByteArray)) ++ t293, 0)) else (none))) else (none)) else ((foolscapref01_Digits.f k a0_0).bind fun t294 => (if bt289.1.size + t294.size ≤ 9223372036854775807 then (some (bt289.1 ++ t294, 0)) else (none)))))) = some (r1, r2) := by rw [if_pos rfl] at H; exact H
  clear H
  have H := H1
  clear H1
  replace H := Option.bind_eq_some_iff.mp H
  obtain ⟨⟨t289, t290⟩, A40, H⟩ := H
  replace H : (if a0_3 = true then (if 1 + t289.size ≤ 9223372036854775807 then (if a0_2 = true then (if ((⟨#[36]⟩ : ByteArray) ++ t289).size + 1 ≤ 9223372036854775807 then ((foolscapref01_Digits.f k a0_0).bind fun t291 => (if (((⟨#[36]⟩ : ByteArray) ++ t289) ++ (⟨#[36]⟩ : ByteArray)).size + t291.size ≤ 9223372036854775807 then (some ((((⟨#[36]⟩ : ByteArray) ++ t289) ++ (⟨#[36]⟩ : ByteArray)) ++ t291, 0)) else (none))) else (none)) else ((foolscapref01_Digits.f k a0_0).bind fun t292 => (if ((⟨#[36]⟩ : ByteArray) ++ t289).size + t292.size ≤ 9223372036854775807 then (some (((⟨#[36]⟩ : ByteArray) ++ t289) ++ t292, 0)) else (none)))) else (none)) else (if a0_2 = true then (if t289.size + 1 ≤ 9223372036854775807 then ((foolscapref01_Digits.f k a0_0).bind fun t293 => (if (t289 ++ (⟨#[36]⟩ : ByteArray)).size + t293.size ≤ 9223372036854775807 then (some ((t289 ++ (⟨#[36]⟩ : ByteArray)) ++ t293, 0)) else (none))) else (none)) else ((foolscapref01_Digits.f k a0_0).bind fun t294 => (if t289.size + t294.size ≤ 9223372036854775807 then (some (t289 ++ t294, 0)) else (none))))) = some (r1, r2) := H
  have A4 := Aside0.mk A40
  clear A40
  by_cases c5 : a0_3 = true
  ·subst c5
   have H1 : (if 1 + t289.size ≤ 9223372036854775807 then (if a0_2 = true then (if ((⟨#[36]⟩ : ByteArray) ++ t289).size + 1 ≤ 9223372036854775807 then ((foolscapref01_Digits.f k a0_0).bind fun t291 => (if (((⟨#[36]⟩ : ByteArray) ++ t289) ++ (⟨#[36]⟩ : ByteArray)).size + t291.size ≤ 9223372036854775807 then (some ((((⟨#[36]⟩ : ByteArray) ++ t289) ++ (⟨#[36]⟩ : ByteArray)) ++ t291, 0)) else (none))) else (none)) else ((foolscapref01_Digits.f k a0_0).bind fun t292 => (if ((⟨#[36]⟩ : ByteArray) ++ t289).size + t292.size ≤ 9223372036854775807 then (some (((⟨#[36]⟩ : ByteArray) ++ t289) ++ t292, 0)) else (none)))) else (none)) = some (r1, r2) := by rw [if_pos rfl] at H; exact H
   clear H
   have H := H1
   clear H1
   by_cases c6 : 1 + t289.size ≤ 9223372036854775807
   ·rw [if_pos c6] at H
    have c6b0 := eq_true c6
    have c6b1 : decide (1 + t289.size ≤ 9223372036854775807) = true := decide_eq_true c6
    try have c6b2 : (9223372036854775807 < 1 + t289.size) = False := eq_false (Nat.not_lt.2 c6)
    by_cases c7 : a0_2 = true
    ·subst c7
     have H1 : (if ((⟨#[36]⟩ : ByteArray) ++ t289).size + 1 ≤ 9223372036854775807 then ((foolscapref01_Digits.f k a0_0).bind fun t291 => (if (((⟨#[36]⟩ : ByteArray) ++ t289) ++ (⟨#[36]⟩ : ByteArray)).size + t291.size ≤ 9223372036854775807 then (some ((((⟨#[36]⟩ : ByteArray) ++ t289) ++ (⟨#[36]⟩ : ByteArray)) ++ t291, 0)) else (none))) else (none)) = some (r1, r2) := by rw [if_pos rfl] at H; exact H
     clear H
     have H := H1
     clear H1
     by_cases c8 : ((⟨#[36]⟩ : ByteArray) ++ t289).size + 1 ≤ 9223372036854775807
     ·rw [if_pos c8] at H
      have c8b0 := eq_true c8
      have c8b1 : decide (((⟨#[36]⟩ : ByteArray) ++ t289).size + 1 ≤ 9223372036854775807) = true := decide_eq_true c8
      try have c8b2 : (9223372036854775807 < ((⟨#[36]⟩ : ByteArray) ++ t289).size + 1) = False := eq_false (Nat.not_lt.2 c8)
      replace H := Option.bind_eq_some_iff.mp H
      obtain ⟨t291, A90, H⟩ := H
      replace H : (if (((⟨#[36]⟩ : ByteArray) ++ t289) ++ (⟨#[36]⟩ : ByteArray)).size + t291.size ≤ 9223372036854775807 then (some ((((⟨#[36]⟩ : ByteArray) ++ t289) ++ (⟨#[36]⟩ : ByteArray)) ++ t291, 0)) else (none)) = some (r1, r2) := H
      have A9 := Aside0.mk A90
      clear A90
      by_cases c10 : (((⟨#[36]⟩ : ByteArray) ++ t289) ++ (⟨#[36]⟩ : ByteArray)).size + t291.size ≤ 9223372036854775807
      ·rw [if_pos c10] at H
       have c10b0 := eq_true c10
       have c10b1 : decide ((((⟨#[36]⟩ : ByteArray) ++ t289) ++ (⟨#[36]⟩ : ByteArray)).size + t291.size ≤ 9223372036854775807) = true := decide_eq_true c10
       try have c10b2 : (9223372036854775807 < (((⟨#[36]⟩ : ByteArray) ++ t289) ++ (⟨#[36]⟩ : ByteArray)).size + t291.size) = False := eq_false (Nat.not_lt.2 c10)
       simp only [Option.some.injEq, Prod.mk.injEq] at H
       obtain ⟨rfl, rfl⟩ := H
       (try (have c8b1n_ := of_decide_eq_true c8b1; simp only [ByteArray.size_append, Int.natCast_add] at c8b1n_))
       (try (have c8b1m_ := of_decide_eq_true c8b1; rw [ByteArray.size_extract, Nat.min_eq_left (by omega), Nat.sub_zero] at c8b1m_))
       (try (have c8b1j_ := of_decide_eq_true c8b1; simp only [ByteArray.size_append, ByteArray.size_extract, show ∀ z : UInt8, (⟨#[z]⟩ : ByteArray).size = 1 from fun _ => rfl] at c8b1j_; (repeat rw [Nat.min_eq_left (by omega)] at c8b1j_); (try simp only [Nat.sub_zero] at c8b1j_); have c8b1f_ := eq_false (Nat.not_lt.2 c8b1j_)))
       (try (have c8b1k_ := of_decide_eq_true c8b1; simp only [ByteArray.size_append, ByteArray.size_extract, show ∀ z : UInt8, (⟨#[z]⟩ : ByteArray).size = 1 from fun _ => rfl] at c8b1k_; (repeat rw [Nat.min_eq_left (by omega)] at c8b1k_); (try simp only [Nat.sub_zero] at c8b1k_); (try simp at c8b1k_)))
       (try (have c10b1n_ := of_decide_eq_true c10b1; simp only [ByteArray.size_append, Int.natCast_add] at c10b1n_))
       (try (have c10b1m_ := of_decide_eq_true c10b1; rw [ByteArray.size_extract, Nat.min_eq_left (by omega), Nat.sub_zero] at c10b1m_))
       (try (have c10b1j_ := of_decide_eq_true c10b1; simp only [ByteArray.size_append, ByteArray.size_extract, show ∀ z : UInt8, (⟨#[z]⟩ : ByteArray).size = 1 from fun _ => rfl] at c10b1j_; (repeat rw [Nat.min_eq_left (by omega)] at c10b1j_); (try simp only [Nat.sub_zero] at c10b1j_); have c10b1f_ := eq_false (Nat.not_lt.2 c10b1j_)))
       (try (have c10b1k_ := of_decide_eq_true c10b1; simp only [ByteArray.size_append, ByteArray.size_extract, show ∀ z : UInt8, (⟨#[z]⟩ : ByteArray).size = 1 from fun _ => rfl] at c10b1k_; (repeat rw [Nat.min_eq_left (by omega)] at c10b1k_); (try simp only [Nat.sub_zero] at c10b1k_); (try simp at c10b1k_)))
       go_enter Tryz.func109, Tryz.ntmps109
       go_wp2_with (first | ((with_reducible refine gate_dst (N := 1) rfl ?_); refine boxE 1 30 (#[.int .i64 a0_0, .int .i64 a0_1, .bool true, .bool true]) ?_; intro gb287 hg w11 hbox hb; have n0_ := Aside0.mk (below_step (hbA) hb); have n1_ := Aside0.mk (hbox); have n2_ := Aside0.mk ((by rw [hg]; exact (below_size (hbA)) : w.heap.size ≤ gb287)); have n3_ := n2_; clear HB; have HB := n0_; have BK287 := n1_; have GW287 := n2_; have GE287 := n3_; clear n0_ n1_ n2_ n3_; clear hb hbox hg; obtain ⟨hcz12_0, hcz12_1, hcz12_2, hcz12_3⟩ := cellsA4 BK287.out; obtain ⟨hfz12_0, hfz12_1, hfz12_2, hfz12_3⟩ := frozA4 BK287.out) | ((with_reducible refine gate_callee (f := 66) rfl ?_); refine goesL_ (some 8) rfl rfl Tryz.func66 (by kernel_rfl) rfl #[.agg #[.int .i64 a0_0, .int .i64 a0_1]] rfl argA ?_; (with_reducible refine (foolscapref05_Place.calls a0_0 a0_1 true _ A2.out).mono ?_); rintro e w13 ⟨rfl, hb⟩; refine ⟨_, rfl, ?_⟩; have n0_ := Aside0.mk (blk_below (g := gb287) (o := .cells #[.int .i64 a0_0, .int .i64 a0_1, .bool true, .bool true] 30 (0, 0)) (have bk_ := BK287.out; bkA) hb); have n1_ := Aside0.mk (below_step (hbA) hb); clear BK287; clear HB; have BK287 := n0_; have HB := n1_; clear n0_ n1_; (try clear hb); (try clear hb2); (try clear hk); (try clear hi); obtain ⟨hcz14_0, hcz14_1, hcz14_2, hcz14_3⟩ := cellsA4 BK287.out; obtain ⟨hfz14_0, hfz14_1, hfz14_2, hfz14_3⟩ := frozA4 BK287.out) | ((with_reducible refine gate_callee (f := 128) rfl ?_); refine goesL_ (some 14) rfl rfl Tryz.func128 (by kernel_rfl) rfl #[.int .i64 a0_1] rfl argA ?_; (with_reducible refine (foolscapref05_Letters.calls k a0_1 t289 t290 _ A4.out).mono ?_); rintro e w15 ⟨rfl, hb⟩; refine ⟨_, rfl, ?_⟩; have n0_ := Aside0.mk (blk_below (g := gb287) (o := .cells #[.int .i64 a0_0, .int .i64 a0_1, .bool true, .bool true] 30 (0, 0)) (have bk_ := BK287.out; bkA) hb); have n1_ := Aside0.mk (below_step (hbA) hb); clear BK287; clear HB; have BK287 := n0_; have HB := n1_; clear n0_ n1_; (try clear hb); (try clear hb2); (try clear hk); (try clear hi); obtain ⟨hcz16_0, hcz16_1, hcz16_2, hcz16_3⟩ := cellsA4 BK287.out; obtain ⟨hfz16_0, hfz16_1, hfz16_2, hfz16_3⟩ := frozA4 BK287.out) | ((with_reducible refine gate_callee (f := 129) rfl ?_); refine goesL_ (some 29) rfl rfl Tryz.func129 (by kernel_rfl) rfl #[.int .i64 a0_0] rfl argA ?_; (with_reducible refine (foolscapref01_Digits.calls k a0_0 t291 _ A9.out).mono ?_); rintro e w17 ⟨rfl, hb⟩; refine ⟨_, rfl, ?_⟩; have n0_ := Aside0.mk (blk_below (g := gb287) (o := .cells #[.int .i64 a0_0, .int .i64 a0_1, .bool true, .bool true] 30 (0, 0)) (have bk_ := BK287.out; bkA) hb); have n1_ := Aside0.mk (below_step (hbA) hb); clear BK287; clear HB; have BK287 := n0_; have HB := n1_; clear n0_ n1_; (try clear hb); (try clear hb2); (try clear hk); (try clear hi)))
       go_ret2
       exact ⟨rflE, hbA⟩
      ·rw [if_neg c10] at H
       exact absurd H (by simp)
     ·rw [if_neg c8] at H
      exact absurd H (by simp)
    ·replace c7 := Bool.eq_false_iff.mpr c7
     subst c7
     have H1 : ((foolscapref01_Digits.f k a0_0).bind fun t292 => (if ((⟨#[36]⟩ : ByteArray) ++ t289).size + t292.size ≤ 9223372036854775807 then (some (((⟨#[36]⟩ : ByteArray) ++ t289) ++ t292, 0)) else (none))) = some (r1, r2) := by rw [if_neg (show ¬ (false = true) by decide)] at H; exact H
     clear H
     have H := H1
     clear H1
     replace H := Option.bind_eq_some_iff.mp H
     obtain ⟨t292, A180, H⟩ := H
     replace H : (if ((⟨#[36]⟩ : ByteArray) ++ t289).size + t292.size ≤ 9223372036854775807 then (some (((⟨#[36]⟩ : ByteArray) ++ t289) ++ t292, 0)) else (none)) = some (r1, r2) := H
     have A18 := Aside0.mk A180
     clear A180
     by_cases c19 : ((⟨#[36]⟩ : ByteArray) ++ t289).size + t292.size ≤ 9223372036854775807
     ·rw [if_pos c19] at H
      have c19b0 := eq_true c19
      have c19b1 : decide (((⟨#[36]⟩ : ByteArray) ++ t289).size + t292.size ≤ 9223372036854775807) = true := decide_eq_true c19
      try have c19b2 : (9223372036854775807 < ((⟨#[36]⟩ : ByteArray) ++ t289).size + t292.size) = False := eq_false (Nat.not_lt.2 c19)
      simp only [Option.some.injEq, Prod.mk.injEq] at H
      obtain ⟨rfl, rfl⟩ := H
      (try (have c19b1n_ := of_decide_eq_true c19b1; simp only [ByteArray.size_append, Int.natCast_add] at c19b1n_))
      (try (have c19b1m_ := of_decide_eq_true c19b1; rw [ByteArray.size_extract, Nat.min_eq_left (by omega), Nat.sub_zero] at c19b1m_))
      (try (have c19b1j_ := of_decide_eq_true c19b1; simp only [ByteArray.size_append, ByteArray.size_extract, show ∀ z : UInt8, (⟨#[z]⟩ : ByteArray).size = 1 from fun _ => rfl] at c19b1j_; (repeat rw [Nat.min_eq_left (by omega)] at c19b1j_); (try simp only [Nat.sub_zero] at c19b1j_); have c19b1f_ := eq_false (Nat.not_lt.2 c19b1j_)))
      (try (have c19b1k_ := of_decide_eq_true c19b1; simp only [ByteArray.size_append, ByteArray.size_extract, show ∀ z : UInt8, (⟨#[z]⟩ : ByteArray).size = 1 from fun _ => rfl] at c19b1k_; (repeat rw [Nat.min_eq_left (by omega)] at c19b1k_); (try simp only [Nat.sub_zero] at c19b1k_); (try simp at c19b1k_)))
      go_enter Tryz.func109, Tryz.ntmps109
      go_wp2_with (first | ((with_reducible refine gate_dst (N := 1) rfl ?_); refine boxE 1 30 (#[.int .i64 a0_0, .int .i64 a0_1, .bool false, .bool true]) ?_; intro gb287 hg w20 hbox hb; have n0_ := Aside0.mk (below_step (hbA) hb); have n1_ := Aside0.mk (hbox); have n2_ := Aside0.mk ((by rw [hg]; exact (below_size (hbA)) : w.heap.size ≤ gb287)); have n3_ := n2_; clear HB; have HB := n0_; have BK287 := n1_; have GW287 := n2_; have GE287 := n3_; clear n0_ n1_ n2_ n3_; clear hb hbox hg; obtain ⟨hcz21_0, hcz21_1, hcz21_2, hcz21_3⟩ := cellsA4 BK287.out; obtain ⟨hfz21_0, hfz21_1, hfz21_2, hfz21_3⟩ := frozA4 BK287.out) | ((with_reducible refine gate_callee (f := 66) rfl ?_); refine goesL_ (some 8) rfl rfl Tryz.func66 (by kernel_rfl) rfl #[.agg #[.int .i64 a0_0, .int .i64 a0_1]] rfl argA ?_; (with_reducible refine (foolscapref05_Place.calls a0_0 a0_1 true _ A2.out).mono ?_); rintro e w22 ⟨rfl, hb⟩; refine ⟨_, rfl, ?_⟩; have n0_ := Aside0.mk (blk_below (g := gb287) (o := .cells #[.int .i64 a0_0, .int .i64 a0_1, .bool false, .bool true] 30 (0, 0)) (have bk_ := BK287.out; bkA) hb); have n1_ := Aside0.mk (below_step (hbA) hb); clear BK287; clear HB; have BK287 := n0_; have HB := n1_; clear n0_ n1_; (try clear hb); (try clear hb2); (try clear hk); (try clear hi); obtain ⟨hcz23_0, hcz23_1, hcz23_2, hcz23_3⟩ := cellsA4 BK287.out; obtain ⟨hfz23_0, hfz23_1, hfz23_2, hfz23_3⟩ := frozA4 BK287.out) | ((with_reducible refine gate_callee (f := 128) rfl ?_); refine goesL_ (some 14) rfl rfl Tryz.func128 (by kernel_rfl) rfl #[.int .i64 a0_1] rfl argA ?_; (with_reducible refine (foolscapref05_Letters.calls k a0_1 t289 t290 _ A4.out).mono ?_); rintro e w24 ⟨rfl, hb⟩; refine ⟨_, rfl, ?_⟩; have n0_ := Aside0.mk (blk_below (g := gb287) (o := .cells #[.int .i64 a0_0, .int .i64 a0_1, .bool false, .bool true] 30 (0, 0)) (have bk_ := BK287.out; bkA) hb); have n1_ := Aside0.mk (below_step (hbA) hb); clear BK287; clear HB; have BK287 := n0_; have HB := n1_; clear n0_ n1_; (try clear hb); (try clear hb2); (try clear hk); (try clear hi); obtain ⟨hcz25_0, hcz25_1, hcz25_2, hcz25_3⟩ := cellsA4 BK287.out; obtain ⟨hfz25_0, hfz25_1, hfz25_2, hfz25_3⟩ := frozA4 BK287.out) | ((with_reducible refine gate_callee (f := 129) rfl ?_); refine goesL_ (some 29) rfl rfl Tryz.func129 (by kernel_rfl) rfl #[.int .i64 a0_0] rfl argA ?_; (with_reducible refine (foolscapref01_Digits.calls k a0_0 t292 _ A18.out).mono ?_); rintro e w26 ⟨rfl, hb⟩; refine ⟨_, rfl, ?_⟩; have n0_ := Aside0.mk (blk_below (g := gb287) (o := .cells #[.int .i64 a0_0, .int .i64 a0_1, .bool false, .bool true] 30 (0, 0)) (have bk_ := BK287.out; bkA) hb); have n1_ := Aside0.mk (below_step (hbA) hb); clear BK287; clear HB; have BK287 := n0_; have HB := n1_; clear n0_ n1_; (try clear hb); (try clear hb2); (try clear hk); (try clear hi)))
      go_ret2
      exact ⟨rflE, hbA⟩
     ·rw [if_neg c19] at H
      exact absurd H (by simp)
   ·rw [if_neg c6] at H
    exact absurd H (by simp)
  ·replace c5 := Bool.eq_false_iff.mpr c5
   subst c5
   have H1 : (if a0_2 = true then (if t289.size + 1 ≤ 9223372036854775807 then ((foolscapref01_Digits.f k a0_0).bind fun t293 => (if (t289 ++ (⟨#[36]⟩ : ByteArray)).size + t293.size ≤ 9223372036854775807 then (some ((t289 ++ (⟨#[36]⟩ : ByteArray)) ++ t293, 0)) else (none))) else (none)) else ((foolscapref01_Digits.f k a0_0).bind fun t294 => (if t289.size + t294.size ≤ 9223372036854775807 then (some (t289 ++ t294, 0)) else (none)))) = some (r1, r2) := by rw [if_neg (show ¬ (false = true) by decide)] at H; exact H
   clear H
   have H := H1
   clear H1
   by_cases c27 : a0_2 = true
   ·subst c27
    have H1 : (if t289.size + 1 ≤ 9223372036854775807 then ((foolscapref01_Digits.f k a0_0).bind fun t293 => (if (t289 ++ (⟨#[36]⟩ : ByteArray)).size + t293.size ≤ 9223372036854775807 then (some ((t289 ++ (⟨#[36]⟩ : ByteArray)) ++ t293, 0)) else (none))) else (none)) = some (r1, r2) := by rw [if_pos rfl] at H; exact H
    clear H
    have H := H1
    clear H1
    by_cases c28 : t289.size + 1 ≤ 9223372036854775807
    ·rw [if_pos c28] at H
     have c28b0 := eq_true c28
     have c28b1 : decide (t289.size + 1 ≤ 9223372036854775807) = true := decide_eq_true c28
     try have c28b2 : (9223372036854775807 < t289.size + 1) = False := eq_false (Nat.not_lt.2 c28)
     replace H := Option.bind_eq_some_iff.mp H
     obtain ⟨t293, A290, H⟩ := H
     replace H : (if (t289 ++ (⟨#[36]⟩ : ByteArray)).size + t293.size ≤ 9223372036854775807 then (some ((t289 ++ (⟨#[36]⟩ : ByteArray)) ++ t293, 0)) else (none)) = some (r1, r2) := H
     have A29 := Aside0.mk A290
     clear A290
     by_cases c30 : (t289 ++ (⟨#[36]⟩ : ByteArray)).size + t293.size ≤ 9223372036854775807
     ·rw [if_pos c30] at H
      have c30b0 := eq_true c30
      have c30b1 : decide ((t289 ++ (⟨#[36]⟩ : ByteArray)).size + t293.size ≤ 9223372036854775807) = true := decide_eq_true c30
      try have c30b2 : (9223372036854775807 < (t289 ++ (⟨#[36]⟩ : ByteArray)).size + t293.size) = False := eq_false (Nat.not_lt.2 c30)
      simp only [Option.some.injEq, Prod.mk.injEq] at H
      obtain ⟨rfl, rfl⟩ := H
      (try (have c30b1n_ := of_decide_eq_true c30b1; simp only [ByteArray.size_append, Int.natCast_add] at c30b1n_))
      (try (have c30b1m_ := of_decide_eq_true c30b1; rw [ByteArray.size_extract, Nat.min_eq_left (by omega), Nat.sub_zero] at c30b1m_))
      (try (have c30b1j_ := of_decide_eq_true c30b1; simp only [ByteArray.size_append, ByteArray.size_extract, show ∀ z : UInt8, (⟨#[z]⟩ : ByteArray).size = 1 from fun _ => rfl] at c30b1j_; (repeat rw [Nat.min_eq_left (by omega)] at c30b1j_); (try simp only [Nat.sub_zero] at c30b1j_); have c30b1f_ := eq_false (Nat.not_lt.2 c30b1j_)))
      (try (have c30b1k_ := of_decide_eq_true c30b1; simp only [ByteArray.size_append, ByteArray.size_extract, show ∀ z : UInt8, (⟨#[z]⟩ : ByteArray).size = 1 from fun _ => rfl] at c30b1k_; (repeat rw [Nat.min_eq_left (by omega)] at c30b1k_); (try simp only [Nat.sub_zero] at c30b1k_); (try simp at c30b1k_)))
      go_enter Tryz.func109, Tryz.ntmps109
      go_wp2_with (first | ((with_reducible refine gate_dst (N := 1) rfl ?_); refine boxE 1 30 (#[.int .i64 a0_0, .int .i64 a0_1, .bool true, .bool false]) ?_; intro gb287 hg w31 hbox hb; have n0_ := Aside0.mk (below_step (hbA) hb); have n1_ := Aside0.mk (hbox); have n2_ := Aside0.mk ((by rw [hg]; exact (below_size (hbA)) : w.heap.size ≤ gb287)); have n3_ := n2_; clear HB; have HB := n0_; have BK287 := n1_; have GW287 := n2_; have GE287 := n3_; clear n0_ n1_ n2_ n3_; clear hb hbox hg; obtain ⟨hcz32_0, hcz32_1, hcz32_2, hcz32_3⟩ := cellsA4 BK287.out; obtain ⟨hfz32_0, hfz32_1, hfz32_2, hfz32_3⟩ := frozA4 BK287.out) | ((with_reducible refine gate_callee (f := 66) rfl ?_); refine goesL_ (some 8) rfl rfl Tryz.func66 (by kernel_rfl) rfl #[.agg #[.int .i64 a0_0, .int .i64 a0_1]] rfl argA ?_; (with_reducible refine (foolscapref05_Place.calls a0_0 a0_1 true _ A2.out).mono ?_); rintro e w33 ⟨rfl, hb⟩; refine ⟨_, rfl, ?_⟩; have n0_ := Aside0.mk (blk_below (g := gb287) (o := .cells #[.int .i64 a0_0, .int .i64 a0_1, .bool true, .bool false] 30 (0, 0)) (have bk_ := BK287.out; bkA) hb); have n1_ := Aside0.mk (below_step (hbA) hb); clear BK287; clear HB; have BK287 := n0_; have HB := n1_; clear n0_ n1_; (try clear hb); (try clear hb2); (try clear hk); (try clear hi); obtain ⟨hcz34_0, hcz34_1, hcz34_2, hcz34_3⟩ := cellsA4 BK287.out; obtain ⟨hfz34_0, hfz34_1, hfz34_2, hfz34_3⟩ := frozA4 BK287.out) | ((with_reducible refine gate_callee (f := 128) rfl ?_); refine goesL_ (some 14) rfl rfl Tryz.func128 (by kernel_rfl) rfl #[.int .i64 a0_1] rfl argA ?_; (with_reducible refine (foolscapref05_Letters.calls k a0_1 t289 t290 _ A4.out).mono ?_); rintro e w35 ⟨rfl, hb⟩; refine ⟨_, rfl, ?_⟩; have n0_ := Aside0.mk (blk_below (g := gb287) (o := .cells #[.int .i64 a0_0, .int .i64 a0_1, .bool true, .bool false] 30 (0, 0)) (have bk_ := BK287.out; bkA) hb); have n1_ := Aside0.mk (below_step (hbA) hb); clear BK287; clear HB; have BK287 := n0_; have HB := n1_; clear n0_ n1_; (try clear hb); (try clear hb2); (try clear hk); (try clear hi); obtain ⟨hcz36_0, hcz36_1, hcz36_2, hcz36_3⟩ := cellsA4 BK287.out; obtain ⟨hfz36_0, hfz36_1, hfz36_2, hfz36_3⟩ := frozA4 BK287.out) | ((with_reducible refine gate_callee (f := 129) rfl ?_); refine goesL_ (some 29) rfl rfl Tryz.func129 (by kernel_rfl) rfl #[.int .i64 a0_0] rfl argA ?_; (with_reducible refine (foolscapref01_Digits.calls k a0_0 t293 _ A29.out).mono ?_); rintro e w37 ⟨rfl, hb⟩; refine ⟨_, rfl, ?_⟩; have n0_ := Aside0.mk (blk_below (g := gb287) (o := .cells #[.int .i64 a0_0, .int .i64 a0_1, .bool true, .bool false] 30 (0, 0)) (have bk_ := BK287.out; bkA) hb); have n1_ := Aside0.mk (below_step (hbA) hb); clear BK287; clear HB; have BK287 := n0_; have HB := n1_; clear n0_ n1_; (try clear hb); (try clear hb2); (try clear hk); (try clear hi)))
      go_ret2
      exact ⟨rflE, hbA⟩
     ·rw [if_neg c30] at H
      exact absurd H (by simp)
    ·rw [if_neg c28] at H
     exact absurd H (by simp)
   ·replace c27 := Bool.eq_false_iff.mpr c27
    subst c27
    have H1 : ((foolscapref01_Digits.f k a0_0).bind fun t294 => (if t289.size + t294.size ≤ 9223372036854775807 then (some (t289 ++ t294, 0)) else (none))) = some (r1, r2) := by rw [if_neg (show ¬ (false = true) by decide)] at H; exact H
    clear H
    have H := H1
    clear H1
    replace H := Option.bind_eq_some_iff.mp H
    obtain ⟨t294, A380, H⟩ := H
    replace H : (if t289.size + t294.size ≤ 9223372036854775807 then (some (t289 ++ t294, 0)) else (none)) = some (r1, r2) := H
    have A38 := Aside0.mk A380
    clear A380
    by_cases c39 : t289.size + t294.size ≤ 9223372036854775807
    ·rw [if_pos c39] at H
     have c39b0 := eq_true c39
     have c39b1 : decide (t289.size + t294.size ≤ 9223372036854775807) = true := decide_eq_true c39
     try have c39b2 : (9223372036854775807 < t289.size + t294.size) = False := eq_false (Nat.not_lt.2 c39)
     simp only [Option.some.injEq, Prod.mk.injEq] at H
     obtain ⟨rfl, rfl⟩ := H
     go_enter Tryz.func109, Tryz.ntmps109
     go_wp2_with (first | ((with_reducible refine gate_dst (N := 1) rfl ?_); refine boxE 1 30 (#[.int .i64 a0_0, .int .i64 a0_1, .bool false, .bool false]) ?_; intro gb287 hg w40 hbox hb; have n0_ := Aside0.mk (below_step (hbA) hb); have n1_ := Aside0.mk (hbox); have n2_ := Aside0.mk ((by rw [hg]; exact (below_size (hbA)) : w.heap.size ≤ gb287)); have n3_ := n2_; clear HB; have HB := n0_; have BK287 := n1_; have GW287 := n2_; have GE287 := n3_; clear n0_ n1_ n2_ n3_; clear hb hbox hg; obtain ⟨hcz41_0, hcz41_1, hcz41_2, hcz41_3⟩ := cellsA4 BK287.out; obtain ⟨hfz41_0, hfz41_1, hfz41_2, hfz41_3⟩ := frozA4 BK287.out) | ((with_reducible refine gate_callee (f := 66) rfl ?_); refine goesL_ (some 8) rfl rfl Tryz.func66 (by kernel_rfl) rfl #[.agg #[.int .i64 a0_0, .int .i64 a0_1]] rfl argA ?_; (with_reducible refine (foolscapref05_Place.calls a0_0 a0_1 true _ A2.out).mono ?_); rintro e w42 ⟨rfl, hb⟩; refine ⟨_, rfl, ?_⟩; have n0_ := Aside0.mk (blk_below (g := gb287) (o := .cells #[.int .i64 a0_0, .int .i64 a0_1, .bool false, .bool false] 30 (0, 0)) (have bk_ := BK287.out; bkA) hb); have n1_ := Aside0.mk (below_step (hbA) hb); clear BK287; clear HB; have BK287 := n0_; have HB := n1_; clear n0_ n1_; (try clear hb); (try clear hb2); (try clear hk); (try clear hi); obtain ⟨hcz43_0, hcz43_1, hcz43_2, hcz43_3⟩ := cellsA4 BK287.out; obtain ⟨hfz43_0, hfz43_1, hfz43_2, hfz43_3⟩ := frozA4 BK287.out) | ((with_reducible refine gate_callee (f := 128) rfl ?_); refine goesL_ (some 14) rfl rfl Tryz.func128 (by kernel_rfl) rfl #[.int .i64 a0_1] rfl argA ?_; (with_reducible refine (foolscapref05_Letters.calls k a0_1 t289 t290 _ A4.out).mono ?_); rintro e w44 ⟨rfl, hb⟩; refine ⟨_, rfl, ?_⟩; have n0_ := Aside0.mk (blk_below (g := gb287) (o := .cells #[.int .i64 a0_0, .int .i64 a0_1, .bool false, .bool false] 30 (0, 0)) (have bk_ := BK287.out; bkA) hb); have n1_ := Aside0.mk (below_step (hbA) hb); clear BK287; clear HB; have BK287 := n0_; have HB := n1_; clear n0_ n1_; (try clear hb); (try clear hb2); (try clear hk); (try clear hi); obtain ⟨hcz45_0, hcz45_1, hcz45_2, hcz45_3⟩ := cellsA4 BK287.out; obtain ⟨hfz45_0, hfz45_1, hfz45_2, hfz45_3⟩ := frozA4 BK287.out) | ((with_reducible refine gate_callee (f := 129) rfl ?_); refine goesL_ (some 29) rfl rfl Tryz.func129 (by kernel_rfl) rfl #[.int .i64 a0_0] rfl argA ?_; (with_reducible refine (foolscapref01_Digits.calls k a0_0 t294 _ A38.out).mono ?_); rintro e w46 ⟨rfl, hb⟩; refine ⟨_, rfl, ?_⟩; have n0_ := Aside0.mk (blk_below (g := gb287) (o := .cells #[.int .i64 a0_0, .int .i64 a0_1, .bool false, .bool false] 30 (0, 0)) (have bk_ := BK287.out; bkA) hb); have n1_ := Aside0.mk (below_step (hbA) hb); clear BK287; clear HB; have BK287 := n0_; have HB := n1_; clear n0_ n1_; (try clear hb); (try clear hb2); (try clear hk); (try clear hi)))
     go_ret2
     exact ⟨rflE, hbA⟩
    ·rw [if_neg c39] at H
     exact absurd H (by simp)
 ·replace c3 := Bool.eq_false_iff.mpr c3
  subst c3
  have H1 : (some ((⟨#[]⟩ : ByteArray), 2)) = some (r1, r2) := by rw [if_neg (show ¬ (false = true) by decide)] at H; exact H
  clear H
  have H := H1
  clear H1
  simp only [Option.some.injEq, Prod.mk.injEq] at H
  obtain ⟨rfl, rfl⟩ := H
  go_enter Tryz.func109, Tryz.ntmps109
  go_wp2_with (first | ((with_reducible refine gate_dst (N := 1) rfl ?_); refine boxE 1 30 (#[.int .i64 a0_0, .int .i64 a0_1, .bool a0_2, .bool a0_3]) ?_; intro gb287 hg w47 hbox hb; have n0_ := Aside0.mk (below_step (hbA) hb); have n1_ := Aside0.mk (hbox); have n2_ := Aside0.mk ((by rw [hg]; exact (below_size (hbA)) : w.heap.size ≤ gb287)); have n3_ := n2_; clear HB; have HB := n0_; have BK287 := n1_; have GW287 := n2_; have GE287 := n3_; clear n0_ n1_ n2_ n3_; clear hb hbox hg; obtain ⟨hcz48_0, hcz48_1, hcz48_2, hcz48_3⟩ := cellsA4 BK287.out; obtain ⟨hfz48_0, hfz48_1, hfz48_2, hfz48_3⟩ := frozA4 BK287.out) | ((with_reducible refine gate_callee (f := 66) rfl ?_); refine goesL_ (some 8) rfl rfl Tryz.func66 (by kernel_rfl) rfl #[.agg #[.int .i64 a0_0, .int .i64 a0_1]] rfl argA ?_; (with_reducible refine (foolscapref05_Place.calls a0_0 a0_1 false _ A2.out).mono ?_); rintro e w49 ⟨rfl, hb⟩; refine ⟨_, rfl, ?_⟩; have n0_ := Aside0.mk (blk_below (g := gb287) (o := .cells #[.int .i64 a0_0, .int .i64 a0_1, .bool a0_2, .bool a0_3] 30 (0, 0)) (have bk_ := BK287.out; bkA) hb); have n1_ := Aside0.mk (below_step (hbA) hb); clear BK287; clear HB; have BK287 := n0_; have HB := n1_; clear n0_ n1_; (try clear hb); (try clear hb2); (try clear hk); (try clear hi)))
  go_ret2
  exact ⟨rflE, hbA⟩
def forms_ranged.f (a0_0 : Int) (a0_1 : Int) (a0_2 : Int) (a0_3 : ByteArray) (a0_4 : Bool) (a0_5 : Int) (a0_6 : Int) (a0_7 : Int) (a0_8 : Bool) (a0_9 : Bool) (a0_10 : Int) (a0_11 : Int) (a0_12 : Bool) (a0_13 : Bool) (a0_14 : ByteArray) (l0_15 : List (S33)) : Option (Bool) := if a0_0 = 2 then (some true) else (some (a0_0 == 3))
theorem forms_ranged.calls (a0_0 : Int) (a0_1 : Int) (a0_2 : Int) (a0_3 : ByteArray) (a0_4 : Bool) (a0_5 : Int) (a0_6 : Int) (a0_7 : Int) (a0_8 : Bool) (a0_9 : Bool) (a0_10 : Int) (a0_11 : Int) (a0_12 : Bool) (a0_13 : Bool) (a0_14 : ByteArray) (A0_15 : Option Addr) (c0_15 : Nat) (l0_15 : List (S33)) (r : Bool) (w : World) (hr0_15 : Kd.C k33 w A0_15 l0_15.length l0_15) (hc0_15 : l0_15.length ≤ c0_15) (h : forms_ranged.f a0_0 a0_1 a0_2 a0_3 a0_4 a0_5 a0_6 a0_7 a0_8 a0_9 a0_10 a0_11 a0_12 a0_13 a0_14 l0_15 = some r) :
  Calls Tryz.prog 46 #[.agg #[.int .i64 a0_0, .int .i64 a0_1, .int .i64 a0_2, .string a0_3, .bool a0_4, .int .i64 a0_5, .int .i64 a0_6, .int .i64 a0_7, .bool a0_8, .bool a0_9, .int .i64 a0_10, .int .i64 a0_11, .bool a0_12, .bool a0_13, .string a0_14, .slice A0_15 l0_15.length c0_15]] w fun e w' => e = .returned (.bool r) ∧ Below w.heap.size w w' := by
 have hu33 := Tryz.underlying33
 have HR0_15 := Aside0.mk hr0_15
 have HC0_15 := Aside0.mk hc0_15
 clear hr0_15 hc0_15
 have HB := Aside0.mk (Below.refl w.heap.size w)
 have H : (if a0_0 = 2 then (some true) else (some (a0_0 == 3))) = some r := h
 clear h
 by_cases c2 : a0_0 = 2
 ·rw [if_pos c2] at H
  have c2b0 : (a0_0 == 2) = true := beq_iff_eq.mpr c2
  have c2b1 : (a0_0 != 2) = false := bne_eq_false_iff_eq.mpr c2
  clear c2
  obtain rfl := Option.some.inj H
  go_enter Tryz.func46, Tryz.ntmps46
  go_wp2_with (first | ((with_reducible refine gate_dst (N := 1) rfl ?_); refine boxE 1 33 (#[.int .i64 a0_0, .int .i64 a0_1, .int .i64 a0_2, .string a0_3, .bool a0_4, .int .i64 a0_5, .int .i64 a0_6, .int .i64 a0_7, .bool a0_8, .bool a0_9, .int .i64 a0_10, .int .i64 a0_11, .bool a0_12, .bool a0_13, .string a0_14, .slice A0_15 l0_15.length c0_15]) ?_; intro gb295 hg w3 hbox hb; have n0_ := Aside0.mk (below_step (hbA) hb); have n1_ := Aside0.mk (hbox); have n2_ := Aside0.mk ((by rw [hg]; exact (below_size (hbA)) : w.heap.size ≤ gb295)); have n3_ := n2_; clear HB; have HB := n0_; have BK295 := n1_; have GW295 := n2_; have GE295 := n3_; clear n0_ n1_ n2_ n3_; clear hb hbox hg; obtain ⟨hcz4_0, hcz4_1, hcz4_2, hcz4_3, hcz4_4, hcz4_5, hcz4_6, hcz4_7, hcz4_8, hcz4_9, hcz4_10, hcz4_11, hcz4_12, hcz4_13, hcz4_14, hcz4_15⟩ := cellsA16 BK295.out; obtain ⟨hfz4_0, hfz4_1, hfz4_2, hfz4_3, hfz4_4, hfz4_5, hfz4_6, hfz4_7, hfz4_8, hfz4_9, hfz4_10, hfz4_11, hfz4_12, hfz4_13, hfz4_14, hfz4_15⟩ := frozA16 BK295.out))
  go_ret
  exact ⟨rflE, hbA⟩
 ·rw [if_neg c2] at H
  have c2b0 : (a0_0 == 2) = false := beq_eq_false_iff_ne.mpr c2
  have c2b1 : (a0_0 != 2) = true := bne_iff_ne.mpr c2
  obtain rfl := Option.some.inj H
  go_enter Tryz.func46, Tryz.ntmps46
  go_wp2_with (first | ((with_reducible refine gate_dst (N := 1) rfl ?_); refine boxE 1 33 (#[.int .i64 a0_0, .int .i64 a0_1, .int .i64 a0_2, .string a0_3, .bool a0_4, .int .i64 a0_5, .int .i64 a0_6, .int .i64 a0_7, .bool a0_8, .bool a0_9, .int .i64 a0_10, .int .i64 a0_11, .bool a0_12, .bool a0_13, .string a0_14, .slice A0_15 l0_15.length c0_15]) ?_; intro gb295 hg w5 hbox hb; have n0_ := Aside0.mk (below_step (hbA) hb); have n1_ := Aside0.mk (hbox); have n2_ := Aside0.mk ((by rw [hg]; exact (below_size (hbA)) : w.heap.size ≤ gb295)); have n3_ := n2_; clear HB; have HB := n0_; have BK295 := n1_; have GW295 := n2_; have GE295 := n3_; clear n0_ n1_ n2_ n3_; clear hb hbox hg; obtain ⟨hcz6_0, hcz6_1, hcz6_2, hcz6_3, hcz6_4, hcz6_5, hcz6_6, hcz6_7, hcz6_8, hcz6_9, hcz6_10, hcz6_11, hcz6_12, hcz6_13, hcz6_14, hcz6_15⟩ := cellsA16 BK295.out; obtain ⟨hfz6_0, hfz6_1, hfz6_2, hfz6_3, hfz6_4, hfz6_5, hfz6_6, hfz6_7, hfz6_8, hfz6_9, hfz6_10, hfz6_11, hfz6_12, hfz6_13, hfz6_14, hfz6_15⟩ := frozA16 BK295.out))
  go_ret
  exact ⟨rflE, hbA⟩
end Go.Proofs.YthnldbclbfpojaaGreatDoor.Pr
end
