/-
  Lemmas for the law FAllFTable.
-/
import Derived.Test.YtopdjokncbpghaaGreatDoorSFAllFTable5
import Derived.Test.YtopdjokncbpghaaGreatDoorSFAllFTable7
import Derived.Test.YtopdjokncbpghaaGreatDoorSFAllFTable8
set_option maxHeartbeats 8000000
set_option maxRecDepth 100000
set_option linter.unusedVariables false
set_option linter.unusedSimpArgs false
section
namespace Go.Proofs.YtopdjokncbpghaaGreatDoor.Pr
open Go.RowKit Go.Proofs.YtopdjokncbpghaaGreatDoorW.PrintWords Go.Proofs.YtopdjokncbpghaaGreatDoorW.PrintLast Go.Proofs.YtopdjokncbpghaaGreatDoorW.PrintMore
attribute [local go_sem] max2_int min2_int max_two min_two max_three min_three max_four min_four   -- for this text's walks alone
def foolscapref07_number.f (k : Nat) (a0 : ByteArray) (a1 : Int) : Option (Int × Int × Int × ByteArray × Bool × Int × Int × Int × Bool × Bool × ByteArray × Int × Int × Int) := (foolscapref07_row.f k a0 a1 false).bind fun t138 => (if 0 ≤ a1 then (if a1 ≤ (wrap64 (a1 + t138)) then (if (wrap64 (a1 + t138)) ≤ (a0.size : Int) then ((foolscapref01_Parse.f k (a0.extract (a1 : Int).toNat ((wrap64 (a1 + t138)) : Int).toNat)).bind fun bt139 => (if bt139.2 = 3 then (some (0, 0, 0, (⟨#[]⟩ : ByteArray), false, 0, 0, 0, false, false, (⟨#[]⟩ : ByteArray), 0, 0, 3)) else (if bt139.2 = 0 then (some (1, 1, bt139.1, (⟨#[]⟩ : ByteArray), false, 0, 0, 0, false, false, (⟨#[]⟩ : ByteArray), a1, wrap64 (a1 + t138), 0)) else (some (0, 0, 0, (⟨#[]⟩ : ByteArray), false, 0, 0, 0, false, false, (⟨#[]⟩ : ByteArray), 0, 0, 5))))) else (none)) else (none)) else (none))
theorem foolscapref07_number.calls (k : Nat) (a0 : ByteArray) (a1 : Int) (r1 : Int) (r2 : Int) (r3 : Int) (r4 : ByteArray) (r5 : Bool) (r6 : Int) (r7 : Int) (r8 : Int) (r9 : Bool) (r10 : Bool) (r11 : ByteArray) (r12 : Int) (r13 : Int) (r14 : Int) (w : World) (h : foolscapref07_number.f k a0 a1 = some (r1, r2, r3, r4, r5, r6, r7, r8, r9, r10, r11, r12, r13, r14)) :
  Calls Tryz.prog 112 #[.string a0, .int .i64 a1] w fun e w' => e = .returned (.tuple #[.agg #[.int .i64 r1, .int .i64 r2, .int .i64 r3, .string r4, .bool r5, .int .i64 r6, .int .i64 r7, .int .i64 r8, .bool r9, .bool r10, .string r11, .int .i64 r12], .int .i64 r13, .int .i64 r14]) ∧ Below w.heap.size w w' := by
 have hu120 := Tryz.underlying120
 have hu37 := Tryz.underlying37
 have HB := Aside0.mk (Below.refl w.heap.size w)
 have H : ((foolscapref07_row.f k a0 a1 false).bind fun t138 => (if 0 ≤ a1 then (if a1 ≤ (wrap64 (a1 + t138)) then (if (wrap64 (a1 + t138)) ≤ (a0.size : Int) then ((foolscapref01_Parse.f k (a0.extract (a1 : Int).toNat ((wrap64 (a1 + t138)) : Int).toNat)).bind fun bt139 => (if bt139.2 = 3 then (some (0, 0, 0, (⟨#[]⟩ : ByteArray), false, 0, 0, 0, false, false, (⟨#[]⟩ : ByteArray), 0, 0, 3)) else (if bt139.2 = 0 then (some (1, 1, bt139.1, (⟨#[]⟩ : ByteArray), false, 0, 0, 0, false, false, (⟨#[]⟩ : ByteArray), a1, wrap64 (a1 + t138), 0)) else (some (0, 0, 0, (⟨#[]⟩ : ByteArray), false, 0, 0, 0, false, false, (⟨#[]⟩ : ByteArray), 0, 0, 5))))) else (none)) else (none)) else (none))) = some (r1, r2, r3, r4, r5, r6, r7, r8, r9, r10, r11, r12, r13, r14) := h
 clear h
 replace H := Option.bind_eq_some_iff.mp H
 obtain ⟨t138, A30, H⟩ := H
 replace H : (if 0 ≤ a1 then (if a1 ≤ (wrap64 (a1 + t138)) then (if (wrap64 (a1 + t138)) ≤ (a0.size : Int) then ((foolscapref01_Parse.f k (a0.extract (a1 : Int).toNat ((wrap64 (a1 + t138)) : Int).toNat)).bind fun bt139 => (if bt139.2 = 3 then (some (0, 0, 0, (⟨#[]⟩ : ByteArray), false, 0, 0, 0, false, false, (⟨#[]⟩ : ByteArray), 0, 0, 3)) else (if bt139.2 = 0 then (some (1, 1, bt139.1, (⟨#[]⟩ : ByteArray), false, 0, 0, 0, false, false, (⟨#[]⟩ : ByteArray), a1, wrap64 (a1 + t138), 0)) else (some (0, 0, 0, (⟨#[]⟩ : ByteArray), false, 0, 0, 0, false, false, (⟨#[]⟩ : ByteArray), 0, 0, 5))))) else (none)) else (none)) else (none)) = some (r1, r2, r3, r4, r5, r6, r7, r8, r9, r10, r11, r12, r13, r14) := H
 have A3 := Aside0.mk A30
 clear A30
 by_cases c4 : 0 ≤ a1
 ·rw [if_pos c4] at H
  have c4b0 := eq_true c4
  have c4b1 : decide (0 ≤ a1) = true := decide_eq_true c4
  clear c4
  by_cases c5 : a1 ≤ (wrap64 (a1 + t138))
  ·rw [if_pos c5] at H
   have c5b0 := eq_true c5
   have c5b1 : decide (a1 ≤ (wrap64 (a1 + t138))) = true := decide_eq_true c5
   by_cases c6 : (wrap64 (a1 + t138)) ≤ (a0.size : Int)
   ·rw [if_pos c6] at H
    have c6b0 := eq_true c6
    have c6b1 : decide ((wrap64 (a1 + t138)) ≤ (a0.size : Int)) = true := decide_eq_true c6
    replace H := Option.bind_eq_some_iff.mp H
    obtain ⟨⟨t139, t140⟩, A70, H⟩ := H
    replace H : (if t140 = 3 then (some (0, 0, 0, (⟨#[]⟩ : ByteArray), false, 0, 0, 0, false, false, (⟨#[]⟩ : ByteArray), 0, 0, 3)) else (if t140 = 0 then (some (1, 1, t139, (⟨#[]⟩ : ByteArray), false, 0, 0, 0, false, false, (⟨#[]⟩ : ByteArray), a1, wrap64 (a1 + t138), 0)) else (some (0, 0, 0, (⟨#[]⟩ : ByteArray), false, 0, 0, 0, false, false, (⟨#[]⟩ : ByteArray), 0, 0, 5)))) = some (r1, r2, r3, r4, r5, r6, r7, r8, r9, r10, r11, r12, r13, r14) := H
    have A7 := Aside0.mk A70
    clear A70
    by_cases c8 : t140 = 3
    ·rw [if_pos c8] at H
     have c8b0 : (t140 == 3) = true := beq_iff_eq.mpr c8
     have c8b1 : (t140 != 3) = false := bne_eq_false_iff_eq.mpr c8
     clear c8
     simp only [Option.some.injEq, Prod.mk.injEq] at H
     obtain ⟨rfl, rfl, rfl, rfl, rfl, rfl, rfl, rfl, rfl, rfl, rfl, rfl, rfl, rfl⟩ := H
     go_enter Tryz.func112, Tryz.ntmps112
     go_wp2_with (first | ((with_reducible refine gate_dst (N := 4) rfl ?_); refine boxE 4 120 (#[.int .i64 0, .int .i64 0, .int .i64 0, .string (⟨#[]⟩ : ByteArray), .bool false, .int .i64 0, .int .i64 0, .int .i64 0, .bool false, .bool false, .string (⟨#[]⟩ : ByteArray), .int .i64 0]) ?_; intro gb137 hg w9 hbox hb; have n0_ := Aside0.mk (below_step (hbA) hb); have n1_ := Aside0.mk (hbox); have n2_ := Aside0.mk ((by rw [hg]; exact (below_size (hbA)) : w.heap.size ≤ gb137)); have n3_ := n2_; clear HB; have HB := n0_; have BK137 := n1_; have GW137 := n2_; have GE137 := n3_; clear n0_ n1_ n2_ n3_; clear hb hbox hg) | ((with_reducible refine gate_callee (f := 132) rfl ?_); refine goesL_ (some 12) rfl rfl Tryz.func132 (by kernel_rfl) rfl #[.string a0, .int .i64 a1, .bool false] rfl argA ?_; (with_reducible refine (foolscapref07_row.calls k a0 a1 false t138 _ A3.out).mono ?_); rintro e w' ⟨rfl, ⟨nd, rfl⟩⟩; refine ⟨_, rfl, ?_⟩; (try (rw [drewN_self w9]; generalize hq_ : World.drewN w9 _ = w9; have n0_ : Aside0 (w9.heap[gb137]? = some (.cells #[.int .i64 0, .int .i64 0, .int .i64 0, .string (⟨#[]⟩ : ByteArray), .bool false, .int .i64 0, .int .i64 0, .int .i64 0, .bool false, .bool false, .string (⟨#[]⟩ : ByteArray), .int .i64 0] 120 (0, 0))) := ⟨by rw [← hq_]; exact (have bk_ := BK137.out; bkA)⟩; have n1_ : Aside0 (Below w.heap.size w w9) := ⟨by rw [← hq_]; exact (hbA)⟩; clear BK137 HB hq_; have BK137 := n0_; have HB := n1_; clear n0_ n1_))) | ((with_reducible refine gate_callee (f := 133) rfl ?_); refine goesL_ (some 20) rfl rfl Tryz.func133 (by kernel_rfl) rfl #[.string (a0.extract (a1 : Int).toNat ((wrap64 (a1 + t138)) : Int).toNat)] rfl argA ?_; (with_reducible refine (foolscapref01_Parse.calls k (a0.extract (a1 : Int).toNat ((wrap64 (a1 + t138)) : Int).toNat) t139 t140 _ A7.out).mono ?_); rintro e w' ⟨rfl, ⟨nd, rfl⟩⟩; refine ⟨_, rfl, ?_⟩; (try (rw [drewN_self w9]; generalize hq_ : World.drewN w9 _ = w9; have n0_ : Aside0 (w9.heap[gb137]? = some (.cells #[.int .i64 0, .int .i64 0, .int .i64 0, .string (⟨#[]⟩ : ByteArray), .bool false, .int .i64 0, .int .i64 0, .int .i64 0, .bool false, .bool false, .string (⟨#[]⟩ : ByteArray), .int .i64 0] 120 (0, 0))) := ⟨by rw [← hq_]; exact (have bk_ := BK137.out; bkA)⟩; have n1_ : Aside0 (Below w.heap.size w w9) := ⟨by rw [← hq_]; exact (hbA)⟩; clear BK137 HB hq_; have BK137 := n0_; have HB := n1_; clear n0_ n1_)); obtain ⟨hcz10_0, hcz10_1, hcz10_2, hcz10_3, hcz10_4, hcz10_5, hcz10_6, hcz10_7, hcz10_8, hcz10_9, hcz10_10, hcz10_11⟩ := cellsA12 BK137.out; obtain ⟨hfz10_0, hfz10_1, hfz10_2, hfz10_3, hfz10_4, hfz10_5, hfz10_6, hfz10_7, hfz10_8, hfz10_9, hfz10_10, hfz10_11⟩ := frozA12 BK137.out))
     refine bodyPost_ret (results_ctt rfl _ _ gb137 120 #[.int .i64 0, .int .i64 0, .int .i64 0, .string (⟨#[]⟩ : ByteArray), .bool false, .int .i64 0, .int .i64 0, .int .i64 0, .bool false, .bool false, .string (⟨#[]⟩ : ByteArray), .int .i64 0] (0, 0) _ rfl (by (with_reducible repeat (first | refine bqZ ?_ _ | refine bqY ?_ | refine bqX ?_ _)); refine put12 (.int .i64 0) (.int .i64 0) (.int .i64 0) (.string (⟨#[]⟩ : ByteArray)) (.bool false) (.int .i64 0) (.int .i64 0) (.int .i64 0) (.bool false) (.bool false) (.string (⟨#[]⟩ : ByteArray)) (.int .i64 0) ?_; exact (have bk_ := BK137.out; bkA)) Tryz.underlying120 rfl (by kernel_rfl)) rfl ?_
     exact ⟨rflE, hbA⟩
    ·rw [if_neg c8] at H
     have c8b0 : (t140 == 3) = false := beq_eq_false_iff_ne.mpr c8
     have c8b1 : (t140 != 3) = true := bne_iff_ne.mpr c8
     by_cases c11 : t140 = 0
     ·rw [if_pos c11] at H
      have c11b0 : (t140 == 0) = true := beq_iff_eq.mpr c11
      have c11b1 : (t140 != 0) = false := bne_eq_false_iff_eq.mpr c11
      clear c11
      simp only [Option.some.injEq, Prod.mk.injEq] at H
      obtain ⟨rfl, rfl, rfl, rfl, rfl, rfl, rfl, rfl, rfl, rfl, rfl, rfl, rfl, rfl⟩ := H
      go_enter Tryz.func112, Tryz.ntmps112
      go_wp2_with (first | ((with_reducible refine gate_dst (N := 4) rfl ?_); refine boxE 4 120 (#[.int .i64 0, .int .i64 0, .int .i64 0, .string (⟨#[]⟩ : ByteArray), .bool false, .int .i64 0, .int .i64 0, .int .i64 0, .bool false, .bool false, .string (⟨#[]⟩ : ByteArray), .int .i64 0]) ?_; intro gb137 hg w12 hbox hb; have n0_ := Aside0.mk (below_step (hbA) hb); have n1_ := Aside0.mk (hbox); have n2_ := Aside0.mk ((by rw [hg]; exact (below_size (hbA)) : w.heap.size ≤ gb137)); have n3_ := n2_; clear HB; have HB := n0_; have BK137 := n1_; have GW137 := n2_; have GE137 := n3_; clear n0_ n1_ n2_ n3_; clear hb hbox hg) | ((with_reducible refine gate_callee (f := 132) rfl ?_); refine goesL_ (some 12) rfl rfl Tryz.func132 (by kernel_rfl) rfl #[.string a0, .int .i64 a1, .bool false] rfl argA ?_; (with_reducible refine (foolscapref07_row.calls k a0 a1 false t138 _ A3.out).mono ?_); rintro e w' ⟨rfl, ⟨nd, rfl⟩⟩; refine ⟨_, rfl, ?_⟩; (try (rw [drewN_self w12]; generalize hq_ : World.drewN w12 _ = w12; have n0_ : Aside0 (w12.heap[gb137]? = some (.cells #[.int .i64 0, .int .i64 0, .int .i64 0, .string (⟨#[]⟩ : ByteArray), .bool false, .int .i64 0, .int .i64 0, .int .i64 0, .bool false, .bool false, .string (⟨#[]⟩ : ByteArray), .int .i64 0] 120 (0, 0))) := ⟨by rw [← hq_]; exact (have bk_ := BK137.out; bkA)⟩; have n1_ : Aside0 (Below w.heap.size w w12) := ⟨by rw [← hq_]; exact (hbA)⟩; clear BK137 HB hq_; have BK137 := n0_; have HB := n1_; clear n0_ n1_))) | ((with_reducible refine gate_callee (f := 133) rfl ?_); refine goesL_ (some 20) rfl rfl Tryz.func133 (by kernel_rfl) rfl #[.string (a0.extract (a1 : Int).toNat ((wrap64 (a1 + t138)) : Int).toNat)] rfl argA ?_; (with_reducible refine (foolscapref01_Parse.calls k (a0.extract (a1 : Int).toNat ((wrap64 (a1 + t138)) : Int).toNat) t139 t140 _ A7.out).mono ?_); rintro e w' ⟨rfl, ⟨nd, rfl⟩⟩; refine ⟨_, rfl, ?_⟩; (try (rw [drewN_self w12]; generalize hq_ : World.drewN w12 _ = w12; have n0_ : Aside0 (w12.heap[gb137]? = some (.cells #[.int .i64 0, .int .i64 0, .int .i64 0, .string (⟨#[]⟩ : ByteArray), .bool false, .int .i64 0, .int .i64 0, .int .i64 0, .bool false, .bool false, .string (⟨#[]⟩ : ByteArray), .int .i64 0] 120 (0, 0))) := ⟨by rw [← hq_]; exact (have bk_ := BK137.out; bkA)⟩; have n1_ : Aside0 (Below w.heap.size w w12) := ⟨by rw [← hq_]; exact (hbA)⟩; clear BK137 HB hq_; have BK137 := n0_; have HB := n1_; clear n0_ n1_)); obtain ⟨hcz13_0, hcz13_1, hcz13_2, hcz13_3, hcz13_4, hcz13_5, hcz13_6, hcz13_7, hcz13_8, hcz13_9, hcz13_10, hcz13_11⟩ := cellsA12 BK137.out; obtain ⟨hfz13_0, hfz13_1, hfz13_2, hfz13_3, hfz13_4, hfz13_5, hfz13_6, hfz13_7, hfz13_8, hfz13_9, hfz13_10, hfz13_11⟩ := frozA12 BK137.out))
      refine bodyPost_ret (results_ctt rfl _ _ gb137 120 #[.int .i64 1, .int .i64 1, .int .i64 t139, .string (⟨#[]⟩ : ByteArray), .bool false, .int .i64 0, .int .i64 0, .int .i64 0, .bool false, .bool false, .string (⟨#[]⟩ : ByteArray), .int .i64 a1] (0, 0) _ rfl (by (with_reducible repeat (first | refine bqZ ?_ _ | refine bqY ?_ | refine bqX ?_ _)); refine put12 (.int .i64 0) (.int .i64 0) (.int .i64 0) (.string (⟨#[]⟩ : ByteArray)) (.bool false) (.int .i64 0) (.int .i64 0) (.int .i64 0) (.bool false) (.bool false) (.string (⟨#[]⟩ : ByteArray)) (.int .i64 0) ?_; exact (have bk_ := BK137.out; bkA)) Tryz.underlying120 rfl (by kernel_rfl)) rfl ?_
      exact ⟨rflE, hbA⟩
     ·rw [if_neg c11] at H
      have c11b0 : (t140 == 0) = false := beq_eq_false_iff_ne.mpr c11
      have c11b1 : (t140 != 0) = true := bne_iff_ne.mpr c11
      simp only [Option.some.injEq, Prod.mk.injEq] at H
      obtain ⟨rfl, rfl, rfl, rfl, rfl, rfl, rfl, rfl, rfl, rfl, rfl, rfl, rfl, rfl⟩ := H
      go_enter Tryz.func112, Tryz.ntmps112
      go_wp2_with (first | ((with_reducible refine gate_dst (N := 4) rfl ?_); refine boxE 4 120 (#[.int .i64 0, .int .i64 0, .int .i64 0, .string (⟨#[]⟩ : ByteArray), .bool false, .int .i64 0, .int .i64 0, .int .i64 0, .bool false, .bool false, .string (⟨#[]⟩ : ByteArray), .int .i64 0]) ?_; intro gb137 hg w14 hbox hb; have n0_ := Aside0.mk (below_step (hbA) hb); have n1_ := Aside0.mk (hbox); have n2_ := Aside0.mk ((by rw [hg]; exact (below_size (hbA)) : w.heap.size ≤ gb137)); have n3_ := n2_; clear HB; have HB := n0_; have BK137 := n1_; have GW137 := n2_; have GE137 := n3_; clear n0_ n1_ n2_ n3_; clear hb hbox hg) | ((with_reducible refine gate_callee (f := 132) rfl ?_); refine goesL_ (some 12) rfl rfl Tryz.func132 (by kernel_rfl) rfl #[.string a0, .int .i64 a1, .bool false] rfl argA ?_; (with_reducible refine (foolscapref07_row.calls k a0 a1 false t138 _ A3.out).mono ?_); rintro e w' ⟨rfl, ⟨nd, rfl⟩⟩; refine ⟨_, rfl, ?_⟩; (try (rw [drewN_self w14]; generalize hq_ : World.drewN w14 _ = w14; have n0_ : Aside0 (w14.heap[gb137]? = some (.cells #[.int .i64 0, .int .i64 0, .int .i64 0, .string (⟨#[]⟩ : ByteArray), .bool false, .int .i64 0, .int .i64 0, .int .i64 0, .bool false, .bool false, .string (⟨#[]⟩ : ByteArray), .int .i64 0] 120 (0, 0))) := ⟨by rw [← hq_]; exact (have bk_ := BK137.out; bkA)⟩; have n1_ : Aside0 (Below w.heap.size w w14) := ⟨by rw [← hq_]; exact (hbA)⟩; clear BK137 HB hq_; have BK137 := n0_; have HB := n1_; clear n0_ n1_))) | ((with_reducible refine gate_callee (f := 133) rfl ?_); refine goesL_ (some 20) rfl rfl Tryz.func133 (by kernel_rfl) rfl #[.string (a0.extract (a1 : Int).toNat ((wrap64 (a1 + t138)) : Int).toNat)] rfl argA ?_; (with_reducible refine (foolscapref01_Parse.calls k (a0.extract (a1 : Int).toNat ((wrap64 (a1 + t138)) : Int).toNat) t139 t140 _ A7.out).mono ?_); rintro e w' ⟨rfl, ⟨nd, rfl⟩⟩; refine ⟨_, rfl, ?_⟩; (try (rw [drewN_self w14]; generalize hq_ : World.drewN w14 _ = w14; have n0_ : Aside0 (w14.heap[gb137]? = some (.cells #[.int .i64 0, .int .i64 0, .int .i64 0, .string (⟨#[]⟩ : ByteArray), .bool false, .int .i64 0, .int .i64 0, .int .i64 0, .bool false, .bool false, .string (⟨#[]⟩ : ByteArray), .int .i64 0] 120 (0, 0))) := ⟨by rw [← hq_]; exact (have bk_ := BK137.out; bkA)⟩; have n1_ : Aside0 (Below w.heap.size w w14) := ⟨by rw [← hq_]; exact (hbA)⟩; clear BK137 HB hq_; have BK137 := n0_; have HB := n1_; clear n0_ n1_)); obtain ⟨hcz15_0, hcz15_1, hcz15_2, hcz15_3, hcz15_4, hcz15_5, hcz15_6, hcz15_7, hcz15_8, hcz15_9, hcz15_10, hcz15_11⟩ := cellsA12 BK137.out; obtain ⟨hfz15_0, hfz15_1, hfz15_2, hfz15_3, hfz15_4, hfz15_5, hfz15_6, hfz15_7, hfz15_8, hfz15_9, hfz15_10, hfz15_11⟩ := frozA12 BK137.out))
      refine bodyPost_ret (results_ctt rfl _ _ gb137 120 #[.int .i64 0, .int .i64 0, .int .i64 0, .string (⟨#[]⟩ : ByteArray), .bool false, .int .i64 0, .int .i64 0, .int .i64 0, .bool false, .bool false, .string (⟨#[]⟩ : ByteArray), .int .i64 0] (0, 0) _ rfl (by (with_reducible repeat (first | refine bqZ ?_ _ | refine bqY ?_ | refine bqX ?_ _)); refine put12 (.int .i64 0) (.int .i64 0) (.int .i64 0) (.string (⟨#[]⟩ : ByteArray)) (.bool false) (.int .i64 0) (.int .i64 0) (.int .i64 0) (.bool false) (.bool false) (.string (⟨#[]⟩ : ByteArray)) (.int .i64 0) ?_; exact (have bk_ := BK137.out; bkA)) Tryz.underlying120 rfl (by kernel_rfl)) rfl ?_
      exact ⟨rflE, hbA⟩
   ·rw [if_neg c6] at H
    exact absurd H (by simp)
  ·rw [if_neg c5] at H
   exact absurd H (by simp)
 ·rw [if_neg c4] at H
  exact absurd H (by simp)
def foolscapref07_text.f (k : Nat) (a0 : ByteArray) (a1 : Int) : Option (Int × Int × Int × ByteArray × Bool × Int × Int × Int × Bool × Bool × ByteArray × Int × Int × Int) := none
theorem foolscapref07_text.calls (k : Nat) (a0 : ByteArray) (a1 : Int) (r1 : Int) (r2 : Int) (r3 : Int) (r4 : ByteArray) (r5 : Bool) (r6 : Int) (r7 : Int) (r8 : Int) (r9 : Bool) (r10 : Bool) (r11 : ByteArray) (r12 : Int) (r13 : Int) (r14 : Int) (w : World) (h : foolscapref07_text.f k a0 a1 = some (r1, r2, r3, r4, r5, r6, r7, r8, r9, r10, r11, r12, r13, r14)) :
  Calls Tryz.prog 113 #[.string a0, .int .i64 a1] w fun e w' => e = .returned (.tuple #[.agg #[.int .i64 r1, .int .i64 r2, .int .i64 r3, .string r4, .bool r5, .int .i64 r6, .int .i64 r7, .int .i64 r8, .bool r9, .bool r10, .string r11, .int .i64 r12], .int .i64 r13, .int .i64 r14]) ∧ Below w.heap.size w w' := by
 unfold foolscapref07_text.f at h
 cases h
def foolscapref07_fault.f (k : Nat) (a0 : ByteArray) (a1 : Int) : Option (Int × Int × Int × ByteArray × Bool × Int × Int × Int × Bool × Bool × ByteArray × Int × Int × Int) := none
def foolscapref07_fault.T5 : Bool × List (List Nat × List Nat) := (true, [([], []), ([0], [0]), ([], []), ([1, 2], [1, 2]), ([], []), ([], []), ([4, 5], [4, 5]), ([6], [6]), ([7], [7]), ([3, 8], [3, 8]), ([9], [9]), ([10], [10]), ([10], [10]), ([10], [10]), ([10], [10]), ([10], [10]), ([14, 15, 10], [10, 14, 15]), ([16, 10], [10, 16]), ([17, 10], [10, 17]), ([13, 18, 10], [10, 13, 18]), ([11, 12, 19, 10], [10, 11, 12, 19]), ([10], [10]), ([10], [10]), ([21, 22, 10], [10, 21, 22]), ([23, 10], [10, 23]), ([20, 24, 10], [10, 20, 24]), ([10, 25], [10, 25])])
def foolscapref07_fault.B5 : List Nat := [0, 1, 0, 7, 0, 0, 48, 112, 240, 511, 1023, 2047, 2047, 2047, 2047, 2047, 51199, 116735, 247807, 518143, 1048575, 2047, 2047, 6293503, 14682111, 33554431, 67108863]
theorem foolscapref07_fault.tab5 : rtab .any (opsOf Tryz.f114 5) = foolscapref07_fault.T5 := by kernel_rfl
theorem foolscapref07_fault.bits5 : waitsOk foolscapref07_fault.T5.2 foolscapref07_fault.B5 = true := by kernel_rfl
def foolscapref07_fault.T6 : Bool × List (List Nat × List Nat) := (true, [([], []), ([0], [0]), ([], []), ([1, 2], [1, 2]), ([], []), ([], []), ([], []), ([5, 6], [5, 6]), ([7], [7]), ([8], [8]), ([4, 9], [4, 9]), ([3, 0, 1, 2, 3], [3]), ([10, 11, 0, 1, 2, 3, 4, 5, 6, 7, 8, 9, 10, 11], [10]), ([12, 0, 1, 2, 3, 4, 5, 6, 7, 8, 9, 10, 11, 12], [])])
def foolscapref07_fault.B6 : List Nat := [0, 1, 0, 7, 0, 0, 0, 96, 224, 480, 1008, 15, 4095, 8191]
theorem foolscapref07_fault.tab6 : rtab .any (opsOf Tryz.f114 6) = foolscapref07_fault.T6 := by kernel_rfl
theorem foolscapref07_fault.bits6 : waitsOk foolscapref07_fault.T6.2 foolscapref07_fault.B6 = true := by kernel_rfl
theorem foolscapref07_fault.calls (k : Nat) (a0 : ByteArray) (a1 : Int) (r1 : Int) (r2 : Int) (r3 : Int) (r4 : ByteArray) (r5 : Bool) (r6 : Int) (r7 : Int) (r8 : Int) (r9 : Bool) (r10 : Bool) (r11 : ByteArray) (r12 : Int) (r13 : Int) (r14 : Int) (w : World) (h : foolscapref07_fault.f k a0 a1 = some (r1, r2, r3, r4, r5, r6, r7, r8, r9, r10, r11, r12, r13, r14)) :
  Calls Tryz.prog 114 #[.string a0, .int .i64 a1] w fun e w' => e = .returned (.tuple #[.agg #[.int .i64 r1, .int .i64 r2, .int .i64 r3, .string r4, .bool r5, .int .i64 r6, .int .i64 r7, .int .i64 r8, .bool r9, .bool r10, .string r11, .int .i64 r12], .int .i64 r13, .int .i64 r14]) ∧ Below w.heap.size w w' := by
 unfold foolscapref07_fault.f at h
 cases h
end Go.Proofs.YtopdjokncbpghaaGreatDoor.Pr
end
section
namespace Go.Proofs.YtopdjokncbpghaaGreatDoor.Pr
open Go.RowKit Go.Proofs.YtopdjokncbpghaaGreatDoorW.PrintWords Go.Proofs.YtopdjokncbpghaaGreatDoorW.PrintLast Go.Proofs.YtopdjokncbpghaaGreatDoorW.PrintMore
attribute [local go_sem] max2_int min2_int max_two min_two max_three min_three max_four min_four   -- for this text's walks alone
attribute [local go_sem high] eqA58
mutual
def foolscapref09_Same.j0 : Nat → Bool → ByteArray → Int → Int → List Int → ByteArray → Int → Int → List Int → Option (Bool)
 | 0, _, _, _, _, _, _, _, _, _ => none
 | k + 1, x33, x278000, x278001, x278002, x278003, x279000, x279001, x279002, x279003 => if x33 = true then (some false) else (foolscapref09_Same.l0 k 0 x278000 x278001 x278002 x278003 x279000 x279001 x279002 x279003)
def foolscapref09_Same.l0 : Nat → Int → ByteArray → Int → Int → List Int → ByteArray → Int → Int → List Int → Option (Bool)
 | 0, _, _, _, _, _, _, _, _, _ => none
 | k + 1, x5, x278000, x278001, x278002, x278003, x279000, x279001, x279002, x279003 => if x5 < (x278003.length : Int) then (if 0 ≤ x5 then (if x5 < (x279003.length : Int) then (if (rd x278003 x5) = (rd x279003 x5) then (foolscapref09_Same.l0 k (wrap64 (x5 + 1)) x278000 x278001 x278002 x278003 x279000 x279001 x279002 x279003) else (some false)) else (none)) else (none)) else (some true)
end
def foolscapref09_Same.f (k : Nat) (a0_0 : ByteArray) (a0_1 : Int) (a0_2 : Int) (l0_3 : List Int) (a1_0 : ByteArray) (a1_1 : Int) (a1_2 : Int) (l1_3 : List Int) : Option (Bool) := if a0_0.toList = a1_0.toList then (if a0_1 = a1_1 then (if a0_2 = a1_2 then (foolscapref09_Same.j0 k ((l0_3.length : Int) != (l1_3.length : Int)) a0_0 a0_1 a0_2 l0_3 a1_0 a1_1 a1_2 l1_3) else (foolscapref09_Same.j0 k true a0_0 a0_1 a0_2 l0_3 a1_0 a1_1 a1_2 l1_3)) else (foolscapref09_Same.j0 k true a0_0 a0_1 a0_2 l0_3 a1_0 a1_1 a1_2 l1_3)) else (foolscapref09_Same.j0 k true a0_0 a0_1 a0_2 l0_3 a1_0 a1_1 a1_2 l1_3)
theorem foolscapref09_Same.calls (k : Nat) (a0_0 : ByteArray) (a0_1 : Int) (a0_2 : Int) (A0_3 : Option Addr) (c0_3 : Nat) (l0_3 : List Int) (a1_0 : ByteArray) (a1_1 : Int) (a1_2 : Int) (A1_3 : Option Addr) (c1_3 : Nat) (l1_3 : List Int) (r : Bool) (w : World) (hr0_3 : Kd.C (Kd.int .i64) w A0_3 l0_3.length l0_3) (hc0_3 : l0_3.length ≤ c0_3) (hr1_3 : Kd.C (Kd.int .i64) w A1_3 l1_3.length l1_3) (hc1_3 : l1_3.length ≤ c1_3) (h : foolscapref09_Same.f k a0_0 a0_1 a0_2 l0_3 a1_0 a1_1 a1_2 l1_3 = some r) :
  Calls Tryz.prog 12 #[.agg #[.string a0_0, .int .i64 a0_1, .int .i64 a0_2, .slice A0_3 l0_3.length c0_3], .agg #[.string a1_0, .int .i64 a1_1, .int .i64 a1_2, .slice A1_3 l1_3.length c1_3]] w fun e w' => e = .returned (.bool r) ∧ Below w.heap.size w w' := by
 have hu24 := Tryz.underlying24
 have HR0_3 := Aside0.mk hr0_3
 have HC0_3 := Aside0.mk hc0_3
 clear hr0_3 hc0_3
 have HR1_3 := Aside0.mk hr1_3
 have HC1_3 := Aside0.mk hc1_3
 clear hr1_3 hc1_3
 have HB := Aside0.mk (Below.refl w.heap.size w)
 have H : (if a0_0.toList = a1_0.toList then (if a0_1 = a1_1 then (if a0_2 = a1_2 then (foolscapref09_Same.j0 k ((l0_3.length : Int) != (l1_3.length : Int)) a0_0 a0_1 a0_2 l0_3 a1_0 a1_1 a1_2 l1_3) else (foolscapref09_Same.j0 k true a0_0 a0_1 a0_2 l0_3 a1_0 a1_1 a1_2 l1_3)) else (foolscapref09_Same.j0 k true a0_0 a0_1 a0_2 l0_3 a1_0 a1_1 a1_2 l1_3)) else (foolscapref09_Same.j0 k true a0_0 a0_1 a0_2 l0_3 a1_0 a1_1 a1_2 l1_3)) = some r := h
 clear h
 have HC3 := Aside0.mk H
 clear H
 go_enter Tryz.func12, Tryz.ntmps12
 go_upto_region 1 with (first | ((with_reducible refine gate_dst (N := 2) rfl ?_); (try (refine gate_guard (by rfl) ?_; dsimp only)); refine boxE 2 24 (#[.string a0_0, .int .i64 a0_1, .int .i64 a0_2, .slice A0_3 l0_3.length c0_3]) ?_; intro gb277 hg w4 hbox hb; have n0_ := Aside0.mk (below_step (hbA) hb); have n1_ := Aside0.mk (hbox); have n2_ := Aside0.mk ((by rw [hg]; exact (below_size (hbA)) : w.heap.size ≤ gb277)); have n3_ := n2_; clear HB; have HB := n0_; have BK277 := n1_; have GW277 := n2_; have GE277 := n3_; clear n0_ n1_ n2_ n3_; clear hb hbox hg) | ((with_reducible refine gate_dst (N := 3) rfl ?_); (try (refine gate_guard (by rfl) ?_; dsimp only)); refine boxE 3 24 (#[.string a1_0, .int .i64 a1_1, .int .i64 a1_2, .slice A1_3 l1_3.length c1_3]) ?_; intro gb278 hg w5 hbox hb; have n0_ := Aside0.mk (blk_below (g := gb277) (o := .cells #[.string a0_0, .int .i64 a0_1, .int .i64 a0_2, .slice A0_3 l0_3.length c0_3] 24 (0, 0)) (have bk_ := BK277.out; bkA) hb); have n1_ := Aside0.mk (below_step (hbA) hb); have n2_ := Aside0.mk (hbox); have n3_ := Aside0.mk ((by rw [hg]; exact (below_size (hbA)) : w.heap.size ≤ gb278)); have n4_ := n3_; have n5_ := Aside0.mk ((by rw [hg]; exact Nat.ne_of_lt (blk_lt (g := gb277) (o := .cells #[.string a0_0, .int .i64 a0_1, .int .i64 a0_2, .slice A0_3 l0_3.length c0_3] 24 (0, 0)) (have bk_ := BK277.out; bkA)) : gb277 ≠ gb278)); have n6_ := Aside0.mk n5_.out.symm; clear BK277; clear HB; have BK277 := n0_; have HB := n1_; have BK278 := n2_; have GW278 := n3_; have GE278 := n4_; have NB277_278 := n5_; have NB278_277 := n6_; clear n0_ n1_ n2_ n3_ n4_ n5_ n6_; clear hb hbox hg))
 repeat (go_quiet (first | ((with_reducible refine gate_dst (N := 2) rfl ?_); (try (refine gate_guard (by rfl) ?_; dsimp only)); refine boxE 2 24 (#[.string a0_0, .int .i64 a0_1, .int .i64 a0_2, .slice A0_3 l0_3.length c0_3]) ?_; intro gb277 hg w4 hbox hb; have n0_ := Aside0.mk (below_step (hbA) hb); have n1_ := Aside0.mk (hbox); have n2_ := Aside0.mk ((by rw [hg]; exact (below_size (hbA)) : w.heap.size ≤ gb277)); have n3_ := n2_; clear HB; have HB := n0_; have BK277 := n1_; have GW277 := n2_; have GE277 := n3_; clear n0_ n1_ n2_ n3_; clear hb hbox hg) | ((with_reducible refine gate_dst (N := 3) rfl ?_); (try (refine gate_guard (by rfl) ?_; dsimp only)); refine boxE 3 24 (#[.string a1_0, .int .i64 a1_1, .int .i64 a1_2, .slice A1_3 l1_3.length c1_3]) ?_; intro gb278 hg w5 hbox hb; have n0_ := Aside0.mk (blk_below (g := gb277) (o := .cells #[.string a0_0, .int .i64 a0_1, .int .i64 a0_2, .slice A0_3 l0_3.length c0_3] 24 (0, 0)) (have bk_ := BK277.out; bkA) hb); have n1_ := Aside0.mk (below_step (hbA) hb); have n2_ := Aside0.mk (hbox); have n3_ := Aside0.mk ((by rw [hg]; exact (below_size (hbA)) : w.heap.size ≤ gb278)); have n4_ := n3_; have n5_ := Aside0.mk ((by rw [hg]; exact Nat.ne_of_lt (blk_lt (g := gb277) (o := .cells #[.string a0_0, .int .i64 a0_1, .int .i64 a0_2, .slice A0_3 l0_3.length c0_3] 24 (0, 0)) (have bk_ := BK277.out; bkA)) : gb277 ≠ gb278)); have n6_ := Aside0.mk n5_.out.symm; clear BK277; clear HB; have BK277 := n0_; have HB := n1_; have BK278 := n2_; have GW278 := n3_; have GE278 := n4_; have NB277_278 := n5_; have NB278_277 := n6_; clear n0_ n1_ n2_ n3_ n4_ n5_ n6_; clear hb hbox hg)); go_upto_region 1 with (first | ((with_reducible refine gate_dst (N := 2) rfl ?_); (try (refine gate_guard (by rfl) ?_; dsimp only)); refine boxE 2 24 (#[.string a0_0, .int .i64 a0_1, .int .i64 a0_2, .slice A0_3 l0_3.length c0_3]) ?_; intro gb277 hg w4 hbox hb; have n0_ := Aside0.mk (below_step (hbA) hb); have n1_ := Aside0.mk (hbox); have n2_ := Aside0.mk ((by rw [hg]; exact (below_size (hbA)) : w.heap.size ≤ gb277)); have n3_ := n2_; clear HB; have HB := n0_; have BK277 := n1_; have GW277 := n2_; have GE277 := n3_; clear n0_ n1_ n2_ n3_; clear hb hbox hg) | ((with_reducible refine gate_dst (N := 3) rfl ?_); (try (refine gate_guard (by rfl) ?_; dsimp only)); refine boxE 3 24 (#[.string a1_0, .int .i64 a1_1, .int .i64 a1_2, .slice A1_3 l1_3.length c1_3]) ?_; intro gb278 hg w5 hbox hb; have n0_ := Aside0.mk (blk_below (g := gb277) (o := .cells #[.string a0_0, .int .i64 a0_1, .int .i64 a0_2, .slice A0_3 l0_3.length c0_3] 24 (0, 0)) (have bk_ := BK277.out; bkA) hb); have n1_ := Aside0.mk (below_step (hbA) hb); have n2_ := Aside0.mk (hbox); have n3_ := Aside0.mk ((by rw [hg]; exact (below_size (hbA)) : w.heap.size ≤ gb278)); have n4_ := n3_; have n5_ := Aside0.mk ((by rw [hg]; exact Nat.ne_of_lt (blk_lt (g := gb277) (o := .cells #[.string a0_0, .int .i64 a0_1, .int .i64 a0_2, .slice A0_3 l0_3.length c0_3] 24 (0, 0)) (have bk_ := BK277.out; bkA)) : gb277 ≠ gb278)); have n6_ := Aside0.mk n5_.out.symm; clear BK277; clear HB; have BK277 := n0_; have HB := n1_; have BK278 := n2_; have GW278 := n3_; have GE278 := n4_; have NB277_278 := n5_; have NB278_277 := n6_; clear n0_ n1_ n2_ n3_ n4_ n5_ n6_; clear hb hbox hg)))
 (try simp only [Act.put, List.setIfInBounds_toArray, List.set_cons_zero, List.set_cons_succ])
 go_cut [33] (fun v33 wc => ∃ (kq : Nat) (x33_2 : Bool), v33 = .bool x33_2 ∧ Aside0 (foolscapref09_Same.j0 kq x33_2 a0_0 a0_1 a0_2 l0_3 a1_0 a1_1 a1_2 l1_3 = some r) ∧ Aside0 (kq ≤ k) ∧ Aside0 (wc.heap[gb277]? = some (.cells #[.string a0_0, .int .i64 a0_1, .int .i64 a0_2, (.slice A0_3 l0_3.length c0_3)] 24 (0, 0))) ∧ Aside0 (wc.heap[gb278]? = some (.cells #[.string a1_0, .int .i64 a1_1, .int .i64 a1_2, (.slice A1_3 l1_3.length c1_3)] 24 (0, 0))) ∧ Aside0 (Below w.heap.size w wc))
 case first =>
  have H := HC3.out
  clear HC3
  by_cases c6 : a0_0.toList = a1_0.toList
  ·rw [if_pos c6] at H
   have c6b0 : (a0_0.toList == a1_0.toList) = true := beq_iff_eq.mpr c6
   have c6b1 : (a0_0.toList != a1_0.toList) = false := bne_eq_false_iff_eq.mpr c6
   clear c6
   (first | rw [c6b0] | (simp only [i64_w, i32_w]; rw [c6b0]) | skip)
   by_cases c7 : a0_1 = a1_1
   ·rw [if_pos c7] at H
    have c7b0 : (a0_1 == a1_1) = true := beq_iff_eq.mpr c7
    have c7b1 : (a0_1 != a1_1) = false := bne_eq_false_iff_eq.mpr c7
    clear c7
    by_cases c8 : a0_2 = a1_2
    ·rw [if_pos c8] at H
     have c8b0 : (a0_2 == a1_2) = true := beq_iff_eq.mpr c8
     have c8b1 : (a0_2 != a1_2) = false := bne_eq_false_iff_eq.mpr c8
     clear c8
     have H' := Aside0.mk H
     clear H
     have hnb9 := NB277_278.out
     have hnc9 := NB278_277.out
     obtain ⟨hcz10_0, hcz10_1, hcz10_2, hcz10_3⟩ := cellsA4 BK277.out
     obtain ⟨hfz10_0, hfz10_1, hfz10_2, hfz10_3⟩ := frozA4 BK277.out
     obtain ⟨hcz11_0, hcz11_1, hcz11_2, hcz11_3⟩ := cellsA4 BK278.out
     obtain ⟨hfz11_0, hfz11_1, hfz11_2, hfz11_3⟩ := frozA4 BK278.out
     go_wp2
     repeat (go_quiet (fail); try go_wp2)
     go_meet
     case rel => exact ⟨_, (((l0_3.length : Int) != (l1_3.length : Int))), (rflS), H', ⟨by first | omega | exact Nat.le_refl _⟩, ⟨have bk_ := BK277.out; bkA⟩, ⟨have bk_ := BK278.out; bkA⟩, ⟨hbA⟩⟩
    ·rw [if_neg c8] at H
     have c8b0 : (a0_2 == a1_2) = false := beq_eq_false_iff_ne.mpr c8
     have c8b1 : (a0_2 != a1_2) = true := bne_iff_ne.mpr c8
     have H' := Aside0.mk H
     clear H
     have hnb12 := NB277_278.out
     have hnc12 := NB278_277.out
     obtain ⟨hcz13_0, hcz13_1, hcz13_2, hcz13_3⟩ := cellsA4 BK277.out
     obtain ⟨hfz13_0, hfz13_1, hfz13_2, hfz13_3⟩ := frozA4 BK277.out
     obtain ⟨hcz14_0, hcz14_1, hcz14_2, hcz14_3⟩ := cellsA4 BK278.out
     obtain ⟨hfz14_0, hfz14_1, hfz14_2, hfz14_3⟩ := frozA4 BK278.out
     go_wp2
     repeat (go_quiet (fail); try go_wp2)
     go_meet
     case rel => exact ⟨_, (true), (rflS), H', ⟨by first | omega | exact Nat.le_refl _⟩, ⟨have bk_ := BK277.out; bkA⟩, ⟨have bk_ := BK278.out; bkA⟩, ⟨hbA⟩⟩
   ·rw [if_neg c7] at H
    have c7b0 : (a0_1 == a1_1) = false := beq_eq_false_iff_ne.mpr c7
    have c7b1 : (a0_1 != a1_1) = true := bne_iff_ne.mpr c7
    have H' := Aside0.mk H
    clear H
    have hnb15 := NB277_278.out
    have hnc15 := NB278_277.out
    obtain ⟨hcz16_0, hcz16_1, hcz16_2, hcz16_3⟩ := cellsA4 BK277.out
    obtain ⟨hfz16_0, hfz16_1, hfz16_2, hfz16_3⟩ := frozA4 BK277.out
    obtain ⟨hcz17_0, hcz17_1, hcz17_2, hcz17_3⟩ := cellsA4 BK278.out
    obtain ⟨hfz17_0, hfz17_1, hfz17_2, hfz17_3⟩ := frozA4 BK278.out
    go_wp2
    repeat (go_quiet (fail); try go_wp2)
    go_meet
    case rel => exact ⟨_, (true), (rflS), H', ⟨by first | omega | exact Nat.le_refl _⟩, ⟨have bk_ := BK277.out; bkA⟩, ⟨have bk_ := BK278.out; bkA⟩, ⟨hbA⟩⟩
  ·rw [if_neg c6] at H
   have c6b0 : (a0_0.toList == a1_0.toList) = false := beq_eq_false_iff_ne.mpr c6
   have c6b1 : (a0_0.toList != a1_0.toList) = true := bne_iff_ne.mpr c6
   (first | rw [c6b0] | (simp only [i64_w, i32_w]; rw [c6b0]) | skip)
   have H' := Aside0.mk H
   clear H
   have hnb18 := NB277_278.out
   have hnc18 := NB278_277.out
   obtain ⟨hcz19_0, hcz19_1, hcz19_2, hcz19_3⟩ := cellsA4 BK277.out
   obtain ⟨hfz19_0, hfz19_1, hfz19_2, hfz19_3⟩ := frozA4 BK277.out
   obtain ⟨hcz20_0, hcz20_1, hcz20_2, hcz20_3⟩ := cellsA4 BK278.out
   obtain ⟨hfz20_0, hfz20_1, hfz20_2, hfz20_3⟩ := frozA4 BK278.out
   go_wp2
   repeat (go_quiet (fail); try go_wp2)
   go_meet
   case rel => exact ⟨_, (true), (rflS), H', ⟨by first | omega | exact Nat.le_refl _⟩, ⟨have bk_ := BK277.out; bkA⟩, ⟨have bk_ := BK278.out; bkA⟩, ⟨hbA⟩⟩
 case rest =>
  clear HC3
  try clear c1
  try clear p2
  try clear c6
  try clear c6b0
  try clear c6b1
  try clear c7
  try clear c7b0
  try clear c7b1
  try clear c8
  try clear c8b0
  try clear c8b1
  try clear c9
  try clear c12
  try clear c15
  try clear c18
  try clear hcz10_0
  try clear hcz10_1
  try clear hcz10_2
  try clear hcz10_3
  try clear hcz11_0
  try clear hcz11_1
  try clear hcz11_2
  try clear hcz11_3
  try clear hcz13_0
  try clear hcz13_1
  try clear hcz13_2
  try clear hcz13_3
  try clear hcz14_0
  try clear hcz14_1
  try clear hcz14_2
  try clear hcz14_3
  try clear hcz16_0
  try clear hcz16_1
  try clear hcz16_2
  try clear hcz16_3
  try clear hcz17_0
  try clear hcz17_1
  try clear hcz17_2
  try clear hcz17_3
  try clear hcz19_0
  try clear hcz19_1
  try clear hcz19_2
  try clear hcz19_3
  try clear hcz20_0
  try clear hcz20_1
  try clear hcz20_2
  try clear hcz20_3
  try clear hfz10_0
  try clear hfz10_1
  try clear hfz10_2
  try clear hfz10_3
  try clear hfz11_0
  try clear hfz11_1
  try clear hfz11_2
  try clear hfz11_3
  try clear hfz13_0
  try clear hfz13_1
  try clear hfz13_2
  try clear hfz13_3
  try clear hfz14_0
  try clear hfz14_1
  try clear hfz14_2
  try clear hfz14_3
  try clear hfz16_0
  try clear hfz16_1
  try clear hfz16_2
  try clear hfz16_3
  try clear hfz17_0
  try clear hfz17_1
  try clear hfz17_2
  try clear hfz17_3
  try clear hfz19_0
  try clear hfz19_1
  try clear hfz19_2
  try clear hfz19_3
  try clear hfz20_0
  try clear hfz20_1
  try clear hfz20_2
  try clear hfz20_3
  obtain ⟨kq, x33_2, rfl, HA, HJ2, BK277, BK278, HB⟩ := hcut
  cases kq with
  | zero => exact absurd HA.out (by simp [foolscapref09_Same.j0])
  | succ kj2 =>
   have H := HA.out
   clear HA
   simp only [foolscapref09_Same.j0] at H
   by_cases c21 : x33_2 = true
   ·subst c21
    have H1 : (some false) = some r := by rw [if_pos rfl] at H; exact H
    clear H
    have H := H1
    clear H1
    obtain rfl := Option.some.inj H
    go_wp2
    repeat (go_quiet (fail); try go_wp2)
    go_ret
    exact ⟨rflE, hbA⟩
   ·replace c21 := Bool.eq_false_iff.mpr c21
    subst c21
    have H1 : (foolscapref09_Same.l0 kj2 0 a0_0 a0_1 a0_2 l0_3 a1_0 a1_1 a1_2 l1_3) = some r := by rw [if_neg (show ¬ (false = true) by decide)] at H; exact H
    clear H
    have H := H1
    clear H1
    have H' := Aside0.mk H
    clear H
    go_wp2
    repeat (go_quiet (fail); try go_wp2)
    go_loopg [5] kj2 (fun kq v5 w' => ∃ (x5_2 : Int), v5 = .int .i64 x5_2 ∧ Aside0 (foolscapref09_Same.l0 kq x5_2 a0_0 a0_1 a0_2 l0_3 a1_0 a1_1 a1_2 l1_3 = some r) ∧ Aside0 (kq ≤ kj2) ∧ Aside0 (w'.heap[gb277]? = some (.cells #[.string a0_0, .int .i64 a0_1, .int .i64 a0_2, (.slice A0_3 l0_3.length c0_3)] 24 (0, 0))) ∧ Aside0 (w'.heap[gb278]? = some (.cells #[.string a1_0, .int .i64 a1_1, .int .i64 a1_2, (.slice A1_3 l1_3.length c1_3)] 24 (0, 0))) ∧ Aside0 (Below w.heap.size w w'))
    case atStart => exact ⟨(0), (rflS), H', ⟨Nat.le_refl _⟩, ⟨have bk_ := BK277.out; bkA⟩, ⟨have bk_ := BK278.out; bkA⟩, ⟨hbA⟩⟩
    case round =>
     clear H'
     try clear c1
     try clear c2
     try clear p2
     try clear c6
     try clear c6b0
     try clear c6b1
     try clear c7
     try clear c7b0
     try clear c7b1
     try clear c8
     try clear c8b0
     try clear c8b1
     try clear c9
     try clear c12
     try clear c15
     try clear c18
     try clear c21
     try clear hcz10_0
     try clear hcz10_1
     try clear hcz10_2
     try clear hcz10_3
     try clear hcz11_0
     try clear hcz11_1
     try clear hcz11_2
     try clear hcz11_3
     try clear hcz13_0
     try clear hcz13_1
     try clear hcz13_2
     try clear hcz13_3
     try clear hcz14_0
     try clear hcz14_1
     try clear hcz14_2
     try clear hcz14_3
     try clear hcz16_0
     try clear hcz16_1
     try clear hcz16_2
     try clear hcz16_3
     try clear hcz17_0
     try clear hcz17_1
     try clear hcz17_2
     try clear hcz17_3
     try clear hcz19_0
     try clear hcz19_1
     try clear hcz19_2
     try clear hcz19_3
     try clear hcz20_0
     try clear hcz20_1
     try clear hcz20_2
     try clear hcz20_3
     try clear hfz10_0
     try clear hfz10_1
     try clear hfz10_2
     try clear hfz10_3
     try clear hfz11_0
     try clear hfz11_1
     try clear hfz11_2
     try clear hfz11_3
     try clear hfz13_0
     try clear hfz13_1
     try clear hfz13_2
     try clear hfz13_3
     try clear hfz14_0
     try clear hfz14_1
     try clear hfz14_2
     try clear hfz14_3
     try clear hfz16_0
     try clear hfz16_1
     try clear hfz16_2
     try clear hfz16_3
     try clear hfz17_0
     try clear hfz17_1
     try clear hfz17_2
     try clear hfz17_3
     try clear hfz19_0
     try clear hfz19_1
     try clear hfz19_2
     try clear hfz19_3
     try clear hfz20_0
     try clear hfz20_1
     try clear hfz20_2
     try clear hfz20_3
     try clear p2
     obtain ⟨x5_2, rfl, HA, HK2, BK277, BK278, HB⟩ := hrel
     cases gk with
     | zero => exact absurd HA.out (by simp [foolscapref09_Same.l0])
     | succ k2 =>
      have H := HA.out
      clear HA
      simp only [foolscapref09_Same.l0] at H
      by_cases c22 : x5_2 < (l0_3.length : Int)
      ·rw [if_pos c22] at H
       have c22b0 : decide (x5_2 < (l0_3.length : Int)) = true := decide_eq_true c22
       clear c22
       by_cases c23 : 0 ≤ x5_2
       ·rw [if_pos c23] at H
        have c23b0 : decide (0 ≤ x5_2) = true := decide_eq_true c23
        clear c23
        by_cases c24 : x5_2 < (l1_3.length : Int)
        ·rw [if_pos c24] at H
         have c24b0 : decide (x5_2 < (l1_3.length : Int)) = true := decide_eq_true c24
         clear c24
         by_cases c25 : (rd l0_3 x5_2) = (rd l1_3 x5_2)
         ·rw [if_pos c25] at H
          have c25b0 : ((rd l0_3 x5_2) == (rd l1_3 x5_2)) = true := beq_iff_eq.mpr c25
          have c25b1 : ((rd l0_3 x5_2) != (rd l1_3 x5_2)) = false := bne_eq_false_iff_eq.mpr c25
          clear c25
          have H' := Aside0.mk H
          clear H
          have hnb26 := NB277_278.out
          have hnc26 := NB278_277.out
          obtain ⟨hcz27_0, hcz27_1, hcz27_2, hcz27_3⟩ := cellsA4 BK277.out
          obtain ⟨hfz27_0, hfz27_1, hfz27_2, hfz27_3⟩ := frozA4 BK277.out
          have p279 : 0 ≤ (x5_2 : Int) := of_decide_eq_true kA
          have q279 : x5_2 < (l0_3.length : Int) := of_decide_eq_true kA
          obtain ⟨ad279, e279, hx279_0⟩ := Kd.at_int HR0_3.out x5_2 p279 q279
          cases e279
          replace hx279_0 := (HB.out.cell (World.block_lt_of_cell? w _ hx279_0)).trans hx279_0
          replace p279 := eq_true p279
          replace q279 := eq_true q279
          obtain ⟨hcz28_0, hcz28_1, hcz28_2, hcz28_3⟩ := cellsA4 BK278.out
          obtain ⟨hfz28_0, hfz28_1, hfz28_2, hfz28_3⟩ := frozA4 BK278.out
          have p280 : 0 ≤ (x5_2 : Int) := of_decide_eq_true kA
          have q280 : x5_2 < (l1_3.length : Int) := of_decide_eq_true kA
          obtain ⟨ad280, e280, hx280_0⟩ := Kd.at_int HR1_3.out x5_2 p280 q280
          cases e280
          replace hx280_0 := (HB.out.cell (World.block_lt_of_cell? w _ hx280_0)).trans hx280_0
          replace p280 := eq_true p280
          replace q280 := eq_true q280
          go_wp2
          repeat (go_quiet (fail); try go_wp2)
          go_roundg k2
          case measure => have := HJ2.out; have := HK2.out; omega
          case rel => exact ⟨(wrap64 (x5_2 + 1)), (rflS), H', ⟨by have := HJ2.out; have := HK2.out; omega⟩, ⟨have bk_ := BK277.out; bkA⟩, ⟨have bk_ := BK278.out; bkA⟩, ⟨hbA⟩⟩
         ·rw [if_neg c25] at H
          have c25b0 : ((rd l0_3 x5_2) == (rd l1_3 x5_2)) = false := beq_eq_false_iff_ne.mpr c25
          have c25b1 : ((rd l0_3 x5_2) != (rd l1_3 x5_2)) = true := bne_iff_ne.mpr c25
          obtain rfl := Option.some.inj H
          have hnb29 := NB277_278.out
          have hnc29 := NB278_277.out
          obtain ⟨hcz30_0, hcz30_1, hcz30_2, hcz30_3⟩ := cellsA4 BK277.out
          obtain ⟨hfz30_0, hfz30_1, hfz30_2, hfz30_3⟩ := frozA4 BK277.out
          have p279 : 0 ≤ (x5_2 : Int) := of_decide_eq_true kA
          have q279 : x5_2 < (l0_3.length : Int) := of_decide_eq_true kA
          obtain ⟨ad279, e279, hx279_0⟩ := Kd.at_int HR0_3.out x5_2 p279 q279
          cases e279
          replace hx279_0 := (HB.out.cell (World.block_lt_of_cell? w _ hx279_0)).trans hx279_0
          replace p279 := eq_true p279
          replace q279 := eq_true q279
          obtain ⟨hcz31_0, hcz31_1, hcz31_2, hcz31_3⟩ := cellsA4 BK278.out
          obtain ⟨hfz31_0, hfz31_1, hfz31_2, hfz31_3⟩ := frozA4 BK278.out
          have p280 : 0 ≤ (x5_2 : Int) := of_decide_eq_true kA
          have q280 : x5_2 < (l1_3.length : Int) := of_decide_eq_true kA
          obtain ⟨ad280, e280, hx280_0⟩ := Kd.at_int HR1_3.out x5_2 p280 q280
          cases e280
          replace hx280_0 := (HB.out.cell (World.block_lt_of_cell? w _ hx280_0)).trans hx280_0
          replace p280 := eq_true p280
          replace q280 := eq_true q280
          go_wp2
          repeat (go_quiet (fail); try go_wp2)
          go_ret
          exact ⟨rflE, hbA⟩
        ·rw [if_neg c24] at H
         exact absurd H (by simp)
       ·rw [if_neg c23] at H
        exact absurd H (by simp)
      ·rw [if_neg c22] at H
       have c22b0 : decide (x5_2 < (l0_3.length : Int)) = false := decide_eq_false c22
       clear c22
       obtain rfl := Option.some.inj H
       have hnb32 := NB277_278.out
       have hnc32 := NB278_277.out
       obtain ⟨hcz33_0, hcz33_1, hcz33_2, hcz33_3⟩ := cellsA4 BK277.out
       obtain ⟨hfz33_0, hfz33_1, hfz33_2, hfz33_3⟩ := frozA4 BK277.out
       go_wp2
       repeat (go_quiet (fail); try go_wp2)
       go_ret
       exact ⟨rflE, hbA⟩
end Go.Proofs.YtopdjokncbpghaaGreatDoor.Pr
end
