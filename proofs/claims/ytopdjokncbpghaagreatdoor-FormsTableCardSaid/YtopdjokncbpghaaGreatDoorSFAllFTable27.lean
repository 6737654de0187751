/-
  Lemmas for the law FAllFTable.
-/
import Derived.Test.YtopdjokncbpghaaGreatDoorSFAllFTable5
import Derived.Test.YtopdjokncbpghaaGreatDoorSFAllFTable6
set_option maxHeartbeats 8000000
set_option maxRecDepth 100000
set_option linter.unusedVariables false
set_option linter.unusedSimpArgs false
section
namespace Go.Proofs.YtopdjokncbpghaaGreatDoor.Pr
open Go.RowKit Go.Proofs.YtopdjokncbpghaaGreatDoorW.PrintWords Go.Proofs.YtopdjokncbpghaaGreatDoorW.PrintLast Go.Proofs.YtopdjokncbpghaaGreatDoorW.PrintMore
attribute [local go_sem] max2_int min2_int max_two min_two max_three min_three max_four min_four   -- for this text's walks alone
attribute [local go_sem high] eqA58
def slices_Index_string_string.l0 : Nat → List ByteArray → ByteArray → Int → Int → Option (Int)
 | 0, _, _, _, _ => none
 | k + 1, x0, x1, x7, x8 => if x8 < x7 then (if 0 ≤ x8 then (if x8 < (x0.length : Int) then (if x1.toList = (rdOf ByteArray.empty x0 x8).toList then (some x8) else (slices_Index_string_string.l0 k x0 x1 x7 (wrap64 (x8 + 1)))) else (none)) else (none)) else (some (-1))
def slices_Index_string_string.f (k : Nat) (l0 : List ByteArray) (a1 : ByteArray) : Option (Int) := slices_Index_string_string.l0 k l0 a1 (l0.length : Int) 0
theorem slices_Index_string_string.calls (k : Nat) (A0 : Option Addr) (c0 : Nat) (l0 : List ByteArray) (a1 : ByteArray) (r : Int) (w : World) (hr0 : Kd.C Kd.string w A0 l0.length l0) (hc0 : l0.length ≤ c0) (h : slices_Index_string_string.f k l0 a1 = some r) :
  Calls Tryz.prog 48 #[.slice A0 l0.length c0, .string a1] w fun e w' => e = .returned (.int .i64 r) ∧ Drawn0 w w' := by
 have HR0 := Aside0.mk hr0
 have HC0 := Aside0.mk hc0
 clear hr0 hc0
 have H : (slices_Index_string_string.l0 k l0 a1 (l0.length : Int) 0) = some r := h
 clear h
 have H' := Aside0.mk H
 clear H
 go_enter Tryz.func48, Tryz.ntmps48
 go_wp2
 go_loopg [8] k (fun kq v8 w' => ∃ (x8_1 : Int), v8 = .int .i64 x8_1 ∧ Aside0 (slices_Index_string_string.l0 kq l0 a1 (l0.length : Int) x8_1 = some r) ∧ Aside0 (kq ≤ k) ∧ Drawn0 w w')
 case atStart => exact ⟨(0), (rflS), H', ⟨Nat.le_refl _⟩, drA⟩
 case round =>
  clear H'
  try clear p2
  obtain ⟨x8_1, rfl, HA, HK1, ⟨m1, rfl⟩⟩ := hrel
  cases gk with
  | zero => exact absurd HA.out (by simp [slices_Index_string_string.l0])
  | succ k1 =>
   have H := HA.out
   clear HA
   simp only [slices_Index_string_string.l0] at H
   by_cases c3 : x8_1 < (l0.length : Int)
   ·rw [if_pos c3] at H
    have c3b0 : decide (x8_1 < (l0.length : Int)) = true := decide_eq_true c3
    clear c3
    by_cases c4 : 0 ≤ x8_1
    ·rw [if_pos c4] at H
     have c4b0 : decide (0 ≤ x8_1) = true := decide_eq_true c4
     clear c4
     by_cases c5 : x8_1 < (l0.length : Int)
     ·rw [if_pos c5] at H
      have c5b0 : decide (x8_1 < (l0.length : Int)) = true := decide_eq_true c5
      clear c5
      by_cases c6 : a1.toList = (rdOf ByteArray.empty l0 x8_1).toList
      ·rw [if_pos c6] at H
       have c6b0 : (a1.toList == (rdOf ByteArray.empty l0 x8_1).toList) = true := beq_iff_eq.mpr c6
       have c6b1 : (a1.toList != (rdOf ByteArray.empty l0 x8_1).toList) = false := bne_eq_false_iff_eq.mpr c6
       clear c6
       obtain rfl := Option.some.inj H
       have p220 : 0 ≤ (x8_1 : Int) := of_decide_eq_true kA
       have q220 : x8_1 < (l0.length : Int) := of_decide_eq_true kA
       obtain ⟨ad220, e220, hx220_0⟩ := Kd.at_string HR0.out x8_1 p220 q220
       cases e220
       replace p220 := eq_true p220
       replace q220 := eq_true q220
       go_wp2
       go_ret
       exact ⟨rflS, drA⟩
      ·rw [if_neg c6] at H
       have c6b0 : (a1.toList == (rdOf ByteArray.empty l0 x8_1).toList) = false := beq_eq_false_iff_ne.mpr c6
       have c6b1 : (a1.toList != (rdOf ByteArray.empty l0 x8_1).toList) = true := bne_iff_ne.mpr c6
       have H' := Aside0.mk H
       clear H
       have p220 : 0 ≤ (x8_1 : Int) := of_decide_eq_true kA
       have q220 : x8_1 < (l0.length : Int) := of_decide_eq_true kA
       obtain ⟨ad220, e220, hx220_0⟩ := Kd.at_string HR0.out x8_1 p220 q220
       cases e220
       replace p220 := eq_true p220
       replace q220 := eq_true q220
       go_wp2
       go_roundg k1
       case measure => have := HK1.out; omega
       case rel => exact ⟨(wrap64 (x8_1 + 1)), (rflS), H', ⟨by have := HK1.out; omega⟩, drA⟩
     ·rw [if_neg c5] at H
      exact absurd H (by simp)
    ·rw [if_neg c4] at H
     exact absurd H (by simp)
   ·rw [if_neg c3] at H
    have c3b0 : decide (x8_1 < (l0.length : Int)) = false := decide_eq_false c3
    clear c3
    obtain rfl := Option.some.inj H
    go_wp2
    go_ret
    exact ⟨rflS, drA⟩
def slices_Contains_string_string.f (k : Nat) (l0 : List ByteArray) (a1 : ByteArray) : Option (Bool) := (slices_Index_string_string.f k l0 a1).bind fun t221 => (some (decide (t221 ≥ 0)))
theorem slices_Contains_string_string.calls (k : Nat) (A0 : Option Addr) (c0 : Nat) (l0 : List ByteArray) (a1 : ByteArray) (r : Bool) (w : World) (hr0 : Kd.C Kd.string w A0 l0.length l0) (hc0 : l0.length ≤ c0) (h : slices_Contains_string_string.f k l0 a1 = some r) :
  Calls Tryz.prog 26 #[.slice A0 l0.length c0, .string a1] w fun e w' => e = .returned (.bool r) ∧ Drawn0 w w' := by
 have HR0 := Aside0.mk hr0
 have HC0 := Aside0.mk hc0
 clear hr0 hc0
 have H : ((slices_Index_string_string.f k l0 a1).bind fun t221 => (some (decide (t221 ≥ 0)))) = some r := h
 clear h
 replace H := Option.bind_eq_some_iff.mp H
 obtain ⟨t221, A30, H⟩ := H
 replace H : (some (decide (t221 ≥ 0))) = some r := H
 have A3 := Aside0.mk A30
 clear A30
 obtain rfl := Option.some.inj H
 go_enter Tryz.func26, Tryz.ntmps26
 go_wp2_with (first | ((with_reducible refine gate_callee (f := 48) rfl ?_); refine goesL_ (some 7) rfl rfl Tryz.func48 (by kernel_rfl) rfl #[.slice A0 l0.length c0, .string a1] rfl argA ?_; (with_reducible refine (slices_Index_string_string.calls k _ _ l0 a1 t221 _ ?side1 ?side2 A3.out).mono ?_); (case side1 => repeat (first | exact HR0.out | (with_reducible refine Kd.C_alloc ?_ _) | (with_reducible refine Kd.C_drewN ?_ _) | (with_reducible refine Kd.C_drew ?_))); (case side2 => exact HC0.out); rintro e w' ⟨rfl, ⟨nd, rfl⟩⟩; refine ⟨_, rfl, ?_⟩))
 go_ret
 exact ⟨rflS, drA⟩
def api_Rect_60.l0 : Nat → List (S58) → Int → Int → Int → Int → Int → Int → Option (Int)
 | 0, _, _, _, _, _, _, _ => none
 | k + 1, x0, x7, x8, x223000, x223001, x223002, x223003 => if x8 < x7 then (if 0 ≤ x8 then (if x8 < (x0.length : Int) then (if (x223000 == ((rd_T58 x0 x8).f0) && (x223001 == ((rd_T58 x0 x8).f1) && (x223002 == ((rd_T58 x0 x8).f2) && (x223003 == ((rd_T58 x0 x8).f3))))) = true then (some x8) else (api_Rect_60.l0 k x0 x7 (wrap64 (x8 + 1)) x223000 x223001 x223002 x223003)) else (none)) else (none)) else (some (-1))
def api_Rect_60.f (k : Nat) (l0 : List (S58)) (a1_0 : Int) (a1_1 : Int) (a1_2 : Int) (a1_3 : Int) : Option (Int) := api_Rect_60.l0 k l0 (l0.length : Int) 0 a1_0 a1_1 a1_2 a1_3
theorem api_Rect_60.calls (k : Nat) (A0 : Option Addr) (c0 : Nat) (l0 : List (S58)) (a1_0 : Int) (a1_1 : Int) (a1_2 : Int) (a1_3 : Int) (r : Int) (w : World) (hr0 : Kd.C k58 w A0 l0.length l0) (hc0 : l0.length ≤ c0) (h : api_Rect_60.f k l0 a1_0 a1_1 a1_2 a1_3 = some r) :
  Calls Tryz.prog 60 #[.slice A0 l0.length c0, .agg #[.int .i64 a1_0, .int .i64 a1_1, .int .i64 a1_2, .int .i64 a1_3]] w fun e w' => e = .returned (.int .i64 r) ∧ Below w.heap.size w w' := by
 have hu58 := Tryz.underlying58
 have HR0 := Aside0.mk hr0
 have HC0 := Aside0.mk hc0
 clear hr0 hc0
 have HB := Aside0.mk (Below.refl w.heap.size w)
 have H : (api_Rect_60.l0 k l0 (l0.length : Int) 0 a1_0 a1_1 a1_2 a1_3) = some r := h
 clear h
 have H' := Aside0.mk H
 clear H
 go_enter Tryz.func60, Tryz.ntmps60
 go_wp2_with (first | ((with_reducible refine gate_dst (N := 3) rfl ?_); refine boxE 3 58 (#[.int .i64 a1_0, .int .i64 a1_1, .int .i64 a1_2, .int .i64 a1_3]) ?_; intro gb222 hg w3 hbox hb; have n0_ := Aside0.mk (below_step (hbA) hb); have n1_ := Aside0.mk (hbox); have n2_ := Aside0.mk ((by rw [hg]; exact (below_size (hbA)) : w.heap.size ≤ gb222)); have n3_ := n2_; clear HB; have HB := n0_; have BK222 := n1_; have GW222 := n2_; have GE222 := n3_; clear n0_ n1_ n2_ n3_; clear hb hbox hg))
 repeat (go_quiet (first | ((with_reducible refine gate_dst (N := 3) rfl ?_); refine boxE 3 58 (#[.int .i64 a1_0, .int .i64 a1_1, .int .i64 a1_2, .int .i64 a1_3]) ?_; intro gb222 hg w3 hbox hb; have n0_ := Aside0.mk (below_step (hbA) hb); have n1_ := Aside0.mk (hbox); have n2_ := Aside0.mk ((by rw [hg]; exact (below_size (hbA)) : w.heap.size ≤ gb222)); have n3_ := n2_; clear HB; have HB := n0_; have BK222 := n1_; have GW222 := n2_; have GE222 := n3_; clear n0_ n1_ n2_ n3_; clear hb hbox hg)); try go_wp2_with (first | ((with_reducible refine gate_dst (N := 3) rfl ?_); refine boxE 3 58 (#[.int .i64 a1_0, .int .i64 a1_1, .int .i64 a1_2, .int .i64 a1_3]) ?_; intro gb222 hg w3 hbox hb; have n0_ := Aside0.mk (below_step (hbA) hb); have n1_ := Aside0.mk (hbox); have n2_ := Aside0.mk ((by rw [hg]; exact (below_size (hbA)) : w.heap.size ≤ gb222)); have n3_ := n2_; clear HB; have HB := n0_; have BK222 := n1_; have GW222 := n2_; have GE222 := n3_; clear n0_ n1_ n2_ n3_; clear hb hbox hg)))
 go_loopg [8] k (fun kq v8 w' => ∃ (x8_1 : Int), v8 = .int .i64 x8_1 ∧ Aside0 (api_Rect_60.l0 kq l0 (l0.length : Int) x8_1 a1_0 a1_1 a1_2 a1_3 = some r) ∧ Aside0 (kq ≤ k) ∧ Aside0 (w'.heap[gb222]? = some (.cells #[.int .i64 a1_0, .int .i64 a1_1, .int .i64 a1_2, .int .i64 a1_3] 58 (0, 0))) ∧ Aside0 (Below w.heap.size w w'))
 case atStart => exact ⟨(0), (rflS), H', ⟨Nat.le_refl _⟩, ⟨have bk_ := BK222.out; bkA⟩, ⟨hbA⟩⟩
 case round =>
  clear H'
  try clear p2
  obtain ⟨x8_1, rfl, HA, HK1, BK222, HB⟩ := hrel
  cases gk with
  | zero => exact absurd HA.out (by simp [api_Rect_60.l0])
  | succ k1 =>
   have H := HA.out
   clear HA
   simp only [api_Rect_60.l0] at H
   by_cases c4 : x8_1 < (l0.length : Int)
   ·rw [if_pos c4] at H
    have c4b0 : decide (x8_1 < (l0.length : Int)) = true := decide_eq_true c4
    clear c4
    by_cases c5 : 0 ≤ x8_1
    ·rw [if_pos c5] at H
     have c5b0 : decide (0 ≤ x8_1) = true := decide_eq_true c5
     clear c5
     by_cases c6 : x8_1 < (l0.length : Int)
     ·rw [if_pos c6] at H
      have c6b0 : decide (x8_1 < (l0.length : Int)) = true := decide_eq_true c6
      clear c6
      by_cases c7 : (a1_0 == ((rd_T58 l0 x8_1).f0) && (a1_1 == ((rd_T58 l0 x8_1).f1) && (a1_2 == ((rd_T58 l0 x8_1).f2) && (a1_3 == ((rd_T58 l0 x8_1).f3))))) = true
      ·rw [if_pos c7] at H
       have c7b0 : (a1_0 == ((rd_T58 l0 x8_1).f0) && (a1_1 == ((rd_T58 l0 x8_1).f1) && (a1_2 == ((rd_T58 l0 x8_1).f2) && (a1_3 == ((rd_T58 l0 x8_1).f3))))) = true := c7
       (try (have c7b1 : decide (a1_0 = ((rd_T58 l0 x8_1).f0) && (a1_1 == ((rd_T58 l0 x8_1).f1) && (a1_2 == ((rd_T58 l0 x8_1).f2) && (a1_3 == ((rd_T58 l0 x8_1).f3))))) = true := by simpa using c7))
       (try (have c7b2 : (a1_0 == ((rd_T58 l0 x8_1).f0) && (a1_1 == ((rd_T58 l0 x8_1).f1) && (a1_2 == ((rd_T58 l0 x8_1).f2) && (a1_3 == ((rd_T58 l0 x8_1).f3))))) = true := by simpa using c7))
       clear c7
       obtain rfl := Option.some.inj H
       obtain ⟨hcz8_0, hcz8_1, hcz8_2, hcz8_3⟩ := cellsA4 BK222.out
       obtain ⟨hfz8_0, hfz8_1, hfz8_2, hfz8_3⟩ := frozA4 BK222.out
       have p223 : 0 ≤ (x8_1 : Int) := of_decide_eq_true kA
       have q223 : x8_1 < (l0.length : Int) := of_decide_eq_true kA
       obtain ⟨ad223, e223, hx223_0, hx223_1, hx223_2, hx223_3⟩ := at_T58 HR0.out x8_1 p223 q223
       cases e223
       replace hx223_0 := (HB.out.cell (World.block_lt_of_cell? w _ hx223_0)).trans hx223_0
       replace hx223_1 := (HB.out.cell (World.block_lt_of_cell? w _ hx223_1)).trans hx223_1
       replace hx223_2 := (HB.out.cell (World.block_lt_of_cell? w _ hx223_2)).trans hx223_2
       replace hx223_3 := (HB.out.cell (World.block_lt_of_cell? w _ hx223_3)).trans hx223_3
       replace p223 := eq_true p223
       replace q223 := eq_true q223
       go_wp2
       repeat (go_quiet (fail); try go_wp2)
       go_ret
       exact ⟨rflE, hbA⟩
      ·rw [if_neg c7] at H
       have c7b0 : (a1_0 == ((rd_T58 l0 x8_1).f0) && (a1_1 == ((rd_T58 l0 x8_1).f1) && (a1_2 == ((rd_T58 l0 x8_1).f2) && (a1_3 == ((rd_T58 l0 x8_1).f3))))) = false := by simpa using c7
       (try (have c7b1 : decide (a1_0 = ((rd_T58 l0 x8_1).f0) && (a1_1 == ((rd_T58 l0 x8_1).f1) && (a1_2 == ((rd_T58 l0 x8_1).f2) && (a1_3 == ((rd_T58 l0 x8_1).f3))))) = false := by simpa using c7))
       (try (have c7b2 : (a1_0 == ((rd_T58 l0 x8_1).f0) && (a1_1 == ((rd_T58 l0 x8_1).f1) && (a1_2 == ((rd_T58 l0 x8_1).f2) && (a1_3 == ((rd_T58 l0 x8_1).f3))))) = false := by simpa using c7))
       (try (have c7b3 : ¬ (a1_0 = ((rd_T58 l0 x8_1).f0) && (a1_1 == ((rd_T58 l0 x8_1).f1) && (a1_2 == ((rd_T58 l0 x8_1).f2) && (a1_3 == ((rd_T58 l0 x8_1).f3))))) := by simpa using c7))
       clear c7
       have H' := Aside0.mk H
       clear H
       obtain ⟨hcz9_0, hcz9_1, hcz9_2, hcz9_3⟩ := cellsA4 BK222.out
       obtain ⟨hfz9_0, hfz9_1, hfz9_2, hfz9_3⟩ := frozA4 BK222.out
       have p223 : 0 ≤ (x8_1 : Int) := of_decide_eq_true kA
       have q223 : x8_1 < (l0.length : Int) := of_decide_eq_true kA
       obtain ⟨ad223, e223, hx223_0, hx223_1, hx223_2, hx223_3⟩ := at_T58 HR0.out x8_1 p223 q223
       cases e223
       replace hx223_0 := (HB.out.cell (World.block_lt_of_cell? w _ hx223_0)).trans hx223_0
       replace hx223_1 := (HB.out.cell (World.block_lt_of_cell? w _ hx223_1)).trans hx223_1
       replace hx223_2 := (HB.out.cell (World.block_lt_of_cell? w _ hx223_2)).trans hx223_2
       replace hx223_3 := (HB.out.cell (World.block_lt_of_cell? w _ hx223_3)).trans hx223_3
       replace p223 := eq_true p223
       replace q223 := eq_true q223
       go_wp2
       repeat (go_quiet (fail); try go_wp2)
       go_roundg k1
       case measure => have := HK1.out; omega
       case rel => exact ⟨(wrap64 (x8_1 + 1)), (rflS), H', ⟨by have := HK1.out; omega⟩, ⟨have bk_ := BK222.out; bkA⟩, ⟨hbA⟩⟩
     ·rw [if_neg c6] at H
      exact absurd H (by simp)
    ·rw [if_neg c5] at H
     exact absurd H (by simp)
   ·rw [if_neg c4] at H
    have c4b0 : decide (x8_1 < (l0.length : Int)) = false := decide_eq_false c4
    clear c4
    obtain rfl := Option.some.inj H
    go_wp2
    repeat (go_quiet (fail); try go_wp2)
    go_ret
    exact ⟨rflE, hbA⟩
def api_Rect_41.f (k : Nat) (l0 : List (S58)) (a1_0 : Int) (a1_1 : Int) (a1_2 : Int) (a1_3 : Int) : Option (Bool) := (api_Rect_60.f k l0 a1_0 a1_1 a1_2 a1_3).bind fun t225 => (some (decide (t225 ≥ 0)))
theorem api_Rect_41.calls (k : Nat) (A0 : Option Addr) (c0 : Nat) (l0 : List (S58)) (a1_0 : Int) (a1_1 : Int) (a1_2 : Int) (a1_3 : Int) (r : Bool) (w : World) (hr0 : Kd.C k58 w A0 l0.length l0) (hc0 : l0.length ≤ c0) (h : api_Rect_41.f k l0 a1_0 a1_1 a1_2 a1_3 = some r) :
  Calls Tryz.prog 41 #[.slice A0 l0.length c0, .agg #[.int .i64 a1_0, .int .i64 a1_1, .int .i64 a1_2, .int .i64 a1_3]] w fun e w' => e = .returned (.bool r) ∧ Below w.heap.size w w' := by
 have hu58 := Tryz.underlying58
 have HR0 := Aside0.mk hr0
 have HC0 := Aside0.mk hc0
 clear hr0 hc0
 have HB := Aside0.mk (Below.refl w.heap.size w)
 have H : ((api_Rect_60.f k l0 a1_0 a1_1 a1_2 a1_3).bind fun t225 => (some (decide (t225 ≥ 0)))) = some r := h
 clear h
 replace H := Option.bind_eq_some_iff.mp H
 obtain ⟨t225, A30, H⟩ := H
 replace H : (some (decide (t225 ≥ 0))) = some r := H
 have A3 := Aside0.mk A30
 clear A30
 obtain rfl := Option.some.inj H
 go_enter Tryz.func41, Tryz.ntmps41
 go_wp2_with (first | ((with_reducible refine gate_dst (N := 3) rfl ?_); refine boxE 3 58 (#[.int .i64 a1_0, .int .i64 a1_1, .int .i64 a1_2, .int .i64 a1_3]) ?_; intro gb224 hg w4 hbox hb; have n0_ := Aside0.mk (below_step (hbA) hb); have n1_ := Aside0.mk (hbox); have n2_ := Aside0.mk ((by rw [hg]; exact (below_size (hbA)) : w.heap.size ≤ gb224)); have n3_ := n2_; clear HB; have HB := n0_; have BK224 := n1_; have GW224 := n2_; have GE224 := n3_; clear n0_ n1_ n2_ n3_; clear hb hbox hg; obtain ⟨hcz5_0, hcz5_1, hcz5_2, hcz5_3⟩ := cellsA4 BK224.out; obtain ⟨hfz5_0, hfz5_1, hfz5_2, hfz5_3⟩ := frozA4 BK224.out) | ((with_reducible refine gate_callee (f := 60) rfl ?_); refine goesL_ (some 7) rfl rfl Tryz.func60 (by kernel_rfl) rfl #[.slice A0 l0.length c0, .agg #[.int .i64 a1_0, .int .i64 a1_1, .int .i64 a1_2, .int .i64 a1_3]] rfl argA ?_; (with_reducible refine (api_Rect_60.calls k _ _ l0 a1_0 a1_1 a1_2 a1_3 t225 _ ?side1 ?side2 A3.out).mono ?_); (case side1 => repeat (first | exact (Kd.C_below HR0.out HB.out) | (with_reducible refine Kd.C_alloc ?_ _) | (with_reducible refine Kd.C_drewN ?_ _) | (with_reducible refine Kd.C_drew ?_))); (case side2 => exact HC0.out); rintro e w6 ⟨rfl, hb⟩; refine ⟨_, rfl, ?_⟩; have n0_ := Aside0.mk (blk_below (g := gb224) (o := .cells #[.int .i64 a1_0, .int .i64 a1_1, .int .i64 a1_2, .int .i64 a1_3] 58 (0, 0)) (have bk_ := BK224.out; bkA) hb); have n1_ := Aside0.mk (below_step (hbA) hb); clear BK224; clear HB; have BK224 := n0_; have HB := n1_; clear n0_ n1_; (try clear hb); (try clear hb2); (try clear hk); (try clear hi)))
 go_ret
 exact ⟨rflE, hbA⟩
def forms_group_form.l0 : Nat → Int → Int → ByteArray → Int → Int → ByteArray → ByteArray → Int → Int → List Int → Option (ByteArray × Int × Int × List Int)
 | 0, _, _, _, _, _, _, _, _, _, _ => none
 | k + 1, x16, x17, x242000, x242001, x242002, x242003, x244000, x244001, x244002, x244003 => if x17 < x16 then (if 0 ≤ x17 then (if x17 < (x242003.size : Int) then (if (bt x242003 x17) = 86 then (if x244003.length < 17592186044416 then (forms_group_form.l0 k x16 (wrap64 (x17 + 1)) x242000 x242001 x242002 x242003 x244000 x244001 x244002 (x244003 ++ [1])) else (none)) else (if (bt x242003 x17) = 82 then (if x244003.length < 17592186044416 then (forms_group_form.l0 k x16 (wrap64 (x17 + 1)) x242000 x242001 x242002 x242003 x244000 x244001 x244002 (x244003 ++ [2])) else (none)) else (if x244003.length < 17592186044416 then (forms_group_form.l0 k x16 (wrap64 (x17 + 1)) x242000 x242001 x242002 x242003 x244000 x244001 x244002 (x244003 ++ [3])) else (none)))) else (none)) else (none)) else (some (x244000, x244001, x244002, x244003))
def forms_group_form.f (k : Nat) (a0_0 : ByteArray) (a0_1 : Int) (a0_2 : Int) (a0_3 : ByteArray) (a1 : ByteArray) : Option (ByteArray × Int × Int × List Int) := forms_group_form.l0 k (a0_3.size : Int) 0 a0_0 a0_1 a0_2 a0_3 a1 a0_1 a0_2 ([] : List Int)
theorem forms_group_form.calls (k : Nat) (a0_0 : ByteArray) (a0_1 : Int) (a0_2 : Int) (a0_3 : ByteArray) (a1 : ByteArray) (r1 : ByteArray) (r2 : Int) (r3 : Int) (r4 : List Int) (w : World) (h : forms_group_form.f k a0_0 a0_1 a0_2 a0_3 a1 = some (r1, r2, r3, r4)) :
  Calls Tryz.prog 28 #[.agg #[.string a0_0, .int .i64 a0_1, .int .i64 a0_2, .string a0_3], .string a1] w fun e w' => ∃ v3_ : Value, e = .returned (.agg #[.string r1, .int .i64 r2, .int .i64 r3, v3_]) ∧ Kd.R (Kd.int .i64) 62 w' w.heap.size (fun _ => True) v3_ r4 ∧ Below w.heap.size w w' := by
 have hu68 := Tryz.underlying68
 have hu24 := Tryz.underlying24
 have HB := Aside0.mk (Below.refl w.heap.size w)
 have H : (forms_group_form.l0 k (a0_3.size : Int) 0 a0_0 a0_1 a0_2 a0_3 a1 a0_1 a0_2 ([] : List Int)) = some (r1, r2, r3, r4) := h
 clear h
 have H' := Aside0.mk H
 clear H
 go_enter Tryz.func28, Tryz.ntmps28
 go_wp2_with (first | ((with_reducible refine gate_dst (N := 2) rfl ?_); refine boxE 2 68 (#[.string a0_0, .int .i64 a0_1, .int .i64 a0_2, .string a0_3]) ?_; intro gb241 hg w3 hbox hb; have n0_ := Aside0.mk (below_step (hbA) hb); have n1_ := Aside0.mk (hbox); have n2_ := Aside0.mk ((by rw [hg]; exact (below_size (hbA)) : w.heap.size ≤ gb241)); have n3_ := n2_; clear HB; have HB := n0_; have BK241 := n1_; have GW241 := n2_; have GE241 := n3_; clear n0_ n1_ n2_ n3_; clear hb hbox hg) | ((with_reducible refine gate_dst (N := 4) rfl ?_); refine boxE 4 24 (#[.string (⟨#[]⟩ : ByteArray), .int .i64 0, .int .i64 0, .slice none 0 0]) ?_; intro gb242 hg w4 hbox hb; have n0_ := Aside0.mk (blk_below (g := gb241) (o := .cells #[.string a0_0, .int .i64 a0_1, .int .i64 a0_2, .string a0_3] 68 (0, 0)) (have bk_ := BK241.out; bkA) hb); have n1_ := Aside0.mk (below_step (hbA) hb); have n2_ := Aside0.mk (hbox); have n3_ := Aside0.mk ((by rw [hg]; exact (below_size (hbA)) : w.heap.size ≤ gb242)); have n4_ := n3_; have n5_ := Aside0.mk ((by rw [hg]; exact Nat.ne_of_lt (blk_lt (g := gb241) (o := .cells #[.string a0_0, .int .i64 a0_1, .int .i64 a0_2, .string a0_3] 68 (0, 0)) (have bk_ := BK241.out; bkA)) : gb241 ≠ gb242)); have n6_ := Aside0.mk n5_.out.symm; clear BK241; clear HB; have BK241 := n0_; have HB := n1_; have BK242 := n2_; have GW242 := n3_; have GE242 := n4_; have NB241_242 := n5_; have NB242_241 := n6_; clear n0_ n1_ n2_ n3_ n4_ n5_ n6_; clear hb hbox hg; have hnb5 := NB241_242.out; have hnc5 := NB242_241.out; obtain ⟨hcz6_0, hcz6_1, hcz6_2, hcz6_3⟩ := cellsA4 BK241.out; obtain ⟨hfz6_0, hfz6_1, hfz6_2, hfz6_3⟩ := frozA4 BK241.out) | ((with_reducible refine gate_dst (N := 5) rfl ?_); refine boxE 5 24 (#[.string (⟨#[]⟩ : ByteArray), .int .i64 0, .int .i64 0, .slice none 0 0]) ?_; intro gb243 hg w7 hbox hb; have n0_ := Aside0.mk (blk_below (g := gb241) (o := .cells #[.string a0_0, .int .i64 a0_1, .int .i64 a0_2, .string a0_3] 68 (0, 0)) (have bk_ := BK241.out; bkA) hb); have n1_ := Aside0.mk (blk_below (g := gb242) (o := .cells #[.string (⟨#[]⟩ : ByteArray), .int .i64 0, .int .i64 0, .slice none 0 0] 24 (0, 0)) (have bk_ := BK242.out; bkA) hb); have n2_ := Aside0.mk (below_step (hbA) hb); have n3_ := Aside0.mk (hbox); have n4_ := Aside0.mk ((by rw [hg]; exact (below_size (hbA)) : w.heap.size ≤ gb243)); have n5_ := n4_; have n6_ := Aside0.mk ((by rw [hg]; exact Nat.ne_of_lt (blk_lt (g := gb241) (o := .cells #[.string a0_0, .int .i64 a0_1, .int .i64 a0_2, .string a0_3] 68 (0, 0)) (have bk_ := BK241.out; bkA)) : gb241 ≠ gb243)); have n7_ := Aside0.mk n6_.out.symm; have n8_ := Aside0.mk ((by rw [hg]; exact Nat.ne_of_lt (blk_lt (g := gb242) (o := .cells #[.string (⟨#[]⟩ : ByteArray), .int .i64 0, .int .i64 0, .slice none 0 0] 24 (0, 0)) (have bk_ := BK242.out; bkA)) : gb242 ≠ gb243)); have n9_ := Aside0.mk n8_.out.symm; clear BK241; clear BK242; clear HB; have BK241 := n0_; have BK242 := n1_; have HB := n2_; have BK243 := n3_; have GW243 := n4_; have GE243 := n5_; have NB241_243 := n6_; have NB243_241 := n7_; have NB242_243 := n8_; have NB243_242 := n9_; clear n0_ n1_ n2_ n3_ n4_ n5_ n6_ n7_ n8_ n9_; clear hb hbox hg; have hnb8 := NB243_241.out; have hnc8 := NB241_243.out; have hnb9 := NB243_242.out; have hnc9 := NB242_243.out; obtain ⟨hcz10_0, hcz10_1, hcz10_2, hcz10_3⟩ := cellsA4 BK243.out; obtain ⟨hfz10_0, hfz10_1, hfz10_2, hfz10_3⟩ := frozA4 BK243.out; obtain ⟨hcz11_0, hcz11_1, hcz11_2, hcz11_3⟩ := cellsA4 BK241.out; obtain ⟨hfz11_0, hfz11_1, hfz11_2, hfz11_3⟩ := frozA4 BK241.out))
 go_loopg [17] k (fun kq v17 w' => ∃ (x17_1 : Int) (x244003_1 : List Int) (u244003 : Value), v17 = .int .i64 x17_1 ∧ Aside0 (forms_group_form.l0 kq (a0_3.size : Int) x17_1 a0_0 a0_1 a0_2 a0_3 a1 a0_1 a0_2 x244003_1 = some (r1, r2, r3, r4)) ∧ Aside0 (kq ≤ k) ∧ Aside0 (Kd.R (Kd.int .i64) 62 w' w.heap.size (fun _ => True) u244003 x244003_1) ∧ Aside0 (w'.heap[gb241]? = some (.cells #[.string a0_0, .int .i64 a0_1, .int .i64 a0_2, .string a0_3] 68 (0, 0))) ∧ Aside0 (w'.heap[gb242]? = some (.cells #[.string (⟨#[]⟩ : ByteArray), .int .i64 0, .int .i64 0, (.slice none 0 0)] 24 (0, 0))) ∧ Aside0 (w'.heap[gb243]? = some (.cells #[.string a1, .int .i64 a0_1, .int .i64 a0_2, u244003] 24 (0, 0))) ∧ Aside0 (Below w.heap.size w w'))
 case atStart => exact ⟨(0), (([] : List Int)), (.slice none 0 0), (rflS), H', ⟨Nat.le_refl _⟩, ⟨by first | exact Kd.R_nil _ _ _ _ _ | exact Kd.N_nil _ _ _ _ _ | exact Kd.V_nil _ _ _ _ _ | exact Kd.Q_nil _ _ _ _ _ | exact Kd.S_nil _ _ _ _ _⟩, ⟨by (with_reducible repeat (first | refine bqZ ?_ _ | refine bqY ?_ | refine bqX ?_ _)); refine blk_far ?_ NB241_243.out _; (with_reducible repeat (first | refine bqZ ?_ _ | refine bqY ?_ | refine bqX ?_ _)); refine blk_far ?_ NB241_243.out _; (with_reducible repeat (first | refine bqZ ?_ _ | refine bqY ?_ | refine bqX ?_ _)); refine blk_far ?_ NB241_243.out _; (with_reducible repeat (first | refine bqZ ?_ _ | refine bqY ?_ | refine bqX ?_ _)); refine blk_far ?_ NB241_243.out _; exact (have bk_ := BK241.out; bkA)⟩, ⟨by (with_reducible repeat (first | refine bqZ ?_ _ | refine bqY ?_ | refine bqX ?_ _)); refine blk_far ?_ NB242_243.out _; (with_reducible repeat (first | refine bqZ ?_ _ | refine bqY ?_ | refine bqX ?_ _)); refine blk_far ?_ NB242_243.out _; (with_reducible repeat (first | refine bqZ ?_ _ | refine bqY ?_ | refine bqX ?_ _)); refine blk_far ?_ NB242_243.out _; (with_reducible repeat (first | refine bqZ ?_ _ | refine bqY ?_ | refine bqX ?_ _)); refine blk_far ?_ NB242_243.out _; exact (have bk_ := BK242.out; bkA)⟩, ⟨by (with_reducible repeat (first | refine bqZ ?_ _ | refine bqY ?_ | refine bqX ?_ _)); refine put4 (.string (⟨#[]⟩ : ByteArray)) (.int .i64 0) (.int .i64 0) (.slice none 0 0) ?_; exact (have bk_ := BK243.out; bkA)⟩, ⟨hbA⟩⟩
 case round =>
  clear H'
  try clear c2
  try clear p2
  try clear c5
  try clear c8
  try clear c9
  try clear hcz10_0
  try clear hcz10_1
  try clear hcz10_2
  try clear hcz10_3
  try clear hcz11_0
  try clear hcz11_1
  try clear hcz11_2
  try clear hcz11_3
  try clear hcz6_0
  try clear hcz6_1
  try clear hcz6_2
  try clear hcz6_3
  try clear hfz10_0
  try clear hfz10_1
  try clear hfz10_2
  try clear hfz10_3
  try clear hfz11_0
  try clear hfz11_1
  try clear hfz11_2
  try clear hfz11_3
  try clear hfz6_0
  try clear hfz6_1
  try clear hfz6_2
  try clear hfz6_3
  obtain ⟨x17_1, x244003_1, u244003, rfl, HA, HK1, HO_244003, BK241, BK242, BK243, HB⟩ := hrel
  cases gk with
  | zero => exact absurd HA.out (by simp [forms_group_form.l0])
  | succ k1 =>
   have H := HA.out
   clear HA
   simp only [forms_group_form.l0] at H
   by_cases c12 : x17_1 < (a0_3.size : Int)
   ·rw [if_pos c12] at H
    have c12b0 : decide (x17_1 < (a0_3.size : Int)) = true := decide_eq_true c12
    clear c12
    by_cases c13 : 0 ≤ x17_1
    ·rw [if_pos c13] at H
     have c13b0 : decide (0 ≤ x17_1) = true := decide_eq_true c13
     clear c13
     by_cases c14 : x17_1 < (a0_3.size : Int)
     ·rw [if_pos c14] at H
      have c14b0 : decide (x17_1 < (a0_3.size : Int)) = true := decide_eq_true c14
      clear c14
      by_cases c16 : (bt a0_3 x17_1) = 86
      ·rw [if_pos c16] at H
       have c16b0 : ((bt a0_3 x17_1) == 86) = true := beq_iff_eq.mpr c16
       have c16b1 : ((bt a0_3 x17_1) != 86) = false := bne_eq_false_iff_eq.mpr c16
       clear c16
       by_cases c17 : x244003_1.length < 17592186044416
       ·rw [if_pos c17] at H
        have LMc17 := Aside0.mk c17
        clear c17
        obtain ⟨y244, hy244⟩ : ∃ y_ : List Int, y_ = (x244003_1 ++ [1]) := ⟨_, rfl⟩
        replace H : (forms_group_form.l0 k1 (a0_3.size : Int) (wrap64 (x17_1 + 1)) a0_0 a0_1 a0_2 a0_3 a1 a0_1 a0_2 y244) = some (r1, r2, r3, r4) := by first | (rw [hy244]; with_reducible exact H) | (have H2_ := (Option.bind_some _ _).symm.trans H; rw [hy244]; with_reducible exact H2_) | (have H2_ := (Option.bind_some _ _).symm.trans H; with_reducible exact H2_) | with_reducible exact H | (rw [hy244]; exact H) | exact H
        have Ny244 := Aside0.mk hy244
        clear hy244
        have H' := Aside0.mk H
        clear H
        have hnb18 := NB241_242.out
        have hnc18 := NB242_241.out
        have hnb19 := NB241_243.out
        have hnc19 := NB243_241.out
        obtain ⟨hcz20_0, hcz20_1, hcz20_2, hcz20_3⟩ := cellsA4 BK241.out
        obtain ⟨hfz20_0, hfz20_1, hfz20_2, hfz20_3⟩ := frozA4 BK241.out
        have p15 : 0 ≤ (x17_1 : Int) := of_decide_eq_true kA
        have q15 : x17_1 < (a0_3.size : Int) := of_decide_eq_true kA
        have hx15 := bt_at a0_3 x17_1
        replace p15 := eq_true p15
        replace q15 := eq_true q15
        have hnb21 := NB243_242.out
        have hnc21 := NB242_243.out
        obtain ⟨hcz22_0, hcz22_1, hcz22_2, hcz22_3⟩ := cellsA4 BK243.out
        obtain ⟨hfz22_0, hfz22_1, hfz22_2, hfz22_3⟩ := frozA4 BK243.out
        go_wp2_with (first | ((with_reducible refine gate_builtin (b := .append) (xs := #[.tmp 29, .tmp 31]) rfl ?_); at_builtin; refine Kd.R_append (Kd.int .i64) (w0 := w) w.heap.size rfl (.tmp 29) (.tmp 31) 22 62 (.int .i64 0) 8 rfl Tryz.underlying22 info62 rfl (by decide) (by omega) u244003 x244003_1 1 [.int .i64 1] (fun _ => True) (fun _ => False) rfl rfl ?aP (fun _ hk => hk.elim) ?aF ?aO ?aB ?aS ?aL ?_; (case aP => exact rfl); (case aB => exact (hbA)); (case aF => exact (fun _ _ => trivial)); (case aO => exact (by (with_reducible repeat (first | apply Kd.R_alloc | apply Kd.R_drewN | apply Kd.R_drew)); exact HO_244003.out)); (case aS => exact (below_size (hbA))); (case aL => have := LMc17.out; omega); intro v245 w23 ho hb hg hat; rw [← Ny244.out] at ho; have n0_ := Aside0.mk (blk_grown (g := gb241) (o := .cells #[.string a0_0, .int .i64 a0_1, .int .i64 a0_2, .string a0_3] 68 (0, 0)) (have bk_ := BK241.out; bkA) hg (Kd.R_ne HO_244003.out BK241.out (by decide))); have n1_ := Aside0.mk (blk_grown (g := gb242) (o := .cells #[.string (⟨#[]⟩ : ByteArray), .int .i64 0, .int .i64 0, .slice none 0 0] 24 (0, 0)) (have bk_ := BK242.out; bkA) hg (Kd.R_ne HO_244003.out BK242.out (by decide))); have n2_ := Aside0.mk (blk_grown (g := gb243) (o := .cells #[.string a1, .int .i64 a0_1, .int .i64 a0_2, u244003] 24 (0, 0)) (have bk_ := BK243.out; bkA) hg (Kd.R_ne HO_244003.out BK243.out (by decide))); have n3_ := Aside0.mk (hb); have n4_ := Aside0.mk (ho); clear BK241; clear BK242; clear BK243; clear HB; clear HO_244003; have BK241 := n0_; have BK242 := n1_; have BK243 := n2_; have HB := n3_; have HO246 := n4_; clear n0_ n1_ n2_ n3_ n4_; clear ho hb hg hat; obtain ⟨Ao24, co24, eo24⟩ := Kd.R_slice HO246.out; subst eo24; obtain ⟨hcz25_0, hcz25_1, hcz25_2, hcz25_3⟩ := cellsA4 BK243.out; obtain ⟨hfz25_0, hfz25_1, hfz25_2, hfz25_3⟩ := frozA4 BK243.out))
        go_roundg k1
        case measure => have := HK1.out; omega
        case rel => exact ⟨(wrap64 (x17_1 + 1)), (y244), (.slice Ao24 y244.length co24), (rflS), H', ⟨by have := HK1.out; omega⟩, ⟨by (with_reducible repeat (first | apply Kd.R_alloc | apply Kd.R_drewN | apply Kd.R_drew)); exact Kd.R_mono (Kd.R_far (p := ⟨gb243, 3, none⟩) (Kd.R_types HO246.out BK243.out (by decide)) (fun _ hk => hk.2) (.slice Ao24 y244.length co24)) (fun _ hk => trivial)⟩, ⟨by (with_reducible repeat (first | refine bqZ ?_ _ | refine bqY ?_ | refine bqX ?_ _)); refine blk_far ?_ NB241_243.out _; exact (have bk_ := BK241.out; bkA)⟩, ⟨by (with_reducible repeat (first | refine bqZ ?_ _ | refine bqY ?_ | refine bqX ?_ _)); refine blk_far ?_ NB242_243.out _; exact (have bk_ := BK242.out; bkA)⟩, ⟨by (with_reducible repeat (first | refine bqZ ?_ _ | refine bqY ?_ | refine bqX ?_ _)); refine blk_put (cs := #[.string a1, .int .i64 a0_1, .int .i64 a0_2, u244003]) ?_ 3 _ rfl; exact (have bk_ := BK243.out; bkA)⟩, ⟨hbA⟩⟩
       ·rw [if_neg c17] at H
        exact absurd H (by simp)
      ·rw [if_neg c16] at H
       have c16b0 : ((bt a0_3 x17_1) == 86) = false := beq_eq_false_iff_ne.mpr c16
       have c16b1 : ((bt a0_3 x17_1) != 86) = true := bne_iff_ne.mpr c16
       by_cases c26 : (bt a0_3 x17_1) = 82
       ·rw [if_pos c26] at H
        have c26b0 : ((bt a0_3 x17_1) == 82) = true := beq_iff_eq.mpr c26
        have c26b1 : ((bt a0_3 x17_1) != 82) = false := bne_eq_false_iff_eq.mpr c26
        clear c26
        by_cases c27 : x244003_1.length < 17592186044416
        ·rw [if_pos c27] at H
         have LMc27 := Aside0.mk c27
         clear c27
         obtain ⟨y247, hy247⟩ : ∃ y_ : List Int, y_ = (x244003_1 ++ [2]) := ⟨_, rfl⟩
         replace H : (forms_group_form.l0 k1 (a0_3.size : Int) (wrap64 (x17_1 + 1)) a0_0 a0_1 a0_2 a0_3 a1 a0_1 a0_2 y247) = some (r1, r2, r3, r4) := by first | (rw [hy247]; with_reducible exact H) | (have H2_ := (Option.bind_some _ _).symm.trans H; rw [hy247]; with_reducible exact H2_) | (have H2_ := (Option.bind_some _ _).symm.trans H; with_reducible exact H2_) | with_reducible exact H | (rw [hy247]; exact H) | exact H
         have Ny247 := Aside0.mk hy247
         clear hy247
         have H' := Aside0.mk H
         clear H
         have hnb28 := NB241_242.out
         have hnc28 := NB242_241.out
         have hnb29 := NB241_243.out
         have hnc29 := NB243_241.out
         obtain ⟨hcz30_0, hcz30_1, hcz30_2, hcz30_3⟩ := cellsA4 BK241.out
         obtain ⟨hfz30_0, hfz30_1, hfz30_2, hfz30_3⟩ := frozA4 BK241.out
         have p15 : 0 ≤ (x17_1 : Int) := of_decide_eq_true kA
         have q15 : x17_1 < (a0_3.size : Int) := of_decide_eq_true kA
         have hx15 := bt_at a0_3 x17_1
         replace p15 := eq_true p15
         replace q15 := eq_true q15
         have hnb31 := NB243_242.out
         have hnc31 := NB242_243.out
         obtain ⟨hcz32_0, hcz32_1, hcz32_2, hcz32_3⟩ := cellsA4 BK243.out
         obtain ⟨hfz32_0, hfz32_1, hfz32_2, hfz32_3⟩ := frozA4 BK243.out
         go_wp2_with (first | ((with_reducible refine gate_builtin (b := .append) (xs := #[.tmp 29, .tmp 31]) rfl ?_); at_builtin; refine Kd.R_append (Kd.int .i64) (w0 := w) w.heap.size rfl (.tmp 29) (.tmp 31) 22 62 (.int .i64 0) 8 rfl Tryz.underlying22 info62 rfl (by decide) (by omega) u244003 x244003_1 2 [.int .i64 2] (fun _ => True) (fun _ => False) rfl rfl ?aP (fun _ hk => hk.elim) ?aF ?aO ?aB ?aS ?aL ?_; (case aP => exact rfl); (case aB => exact (hbA)); (case aF => exact (fun _ _ => trivial)); (case aO => exact (by (with_reducible repeat (first | apply Kd.R_alloc | apply Kd.R_drewN | apply Kd.R_drew)); exact HO_244003.out)); (case aS => exact (below_size (hbA))); (case aL => have := LMc27.out; omega); intro v248 w33 ho hb hg hat; rw [← Ny247.out] at ho; have n0_ := Aside0.mk (blk_grown (g := gb241) (o := .cells #[.string a0_0, .int .i64 a0_1, .int .i64 a0_2, .string a0_3] 68 (0, 0)) (have bk_ := BK241.out; bkA) hg (Kd.R_ne HO_244003.out BK241.out (by decide))); have n1_ := Aside0.mk (blk_grown (g := gb242) (o := .cells #[.string (⟨#[]⟩ : ByteArray), .int .i64 0, .int .i64 0, .slice none 0 0] 24 (0, 0)) (have bk_ := BK242.out; bkA) hg (Kd.R_ne HO_244003.out BK242.out (by decide))); have n2_ := Aside0.mk (blk_grown (g := gb243) (o := .cells #[.string a1, .int .i64 a0_1, .int .i64 a0_2, u244003] 24 (0, 0)) (have bk_ := BK243.out; bkA) hg (Kd.R_ne HO_244003.out BK243.out (by decide))); have n3_ := Aside0.mk (hb); have n4_ := Aside0.mk (ho); clear BK241; clear BK242; clear BK243; clear HB; clear HO_244003; have BK241 := n0_; have BK242 := n1_; have BK243 := n2_; have HB := n3_; have HO249 := n4_; clear n0_ n1_ n2_ n3_ n4_; clear ho hb hg hat; obtain ⟨Ao34, co34, eo34⟩ := Kd.R_slice HO249.out; subst eo34; obtain ⟨hcz35_0, hcz35_1, hcz35_2, hcz35_3⟩ := cellsA4 BK243.out; obtain ⟨hfz35_0, hfz35_1, hfz35_2, hfz35_3⟩ := frozA4 BK243.out))
         go_roundg k1
         case measure => have := HK1.out; omega
         case rel => exact ⟨(wrap64 (x17_1 + 1)), (y247), (.slice Ao34 y247.length co34), (rflS), H', ⟨by have := HK1.out; omega⟩, ⟨by (with_reducible repeat (first | apply Kd.R_alloc | apply Kd.R_drewN | apply Kd.R_drew)); exact Kd.R_mono (Kd.R_far (p := ⟨gb243, 3, none⟩) (Kd.R_types HO249.out BK243.out (by decide)) (fun _ hk => hk.2) (.slice Ao34 y247.length co34)) (fun _ hk => trivial)⟩, ⟨by (with_reducible repeat (first | refine bqZ ?_ _ | refine bqY ?_ | refine bqX ?_ _)); refine blk_far ?_ NB241_243.out _; exact (have bk_ := BK241.out; bkA)⟩, ⟨by (with_reducible repeat (first | refine bqZ ?_ _ | refine bqY ?_ | refine bqX ?_ _)); refine blk_far ?_ NB242_243.out _; exact (have bk_ := BK242.out; bkA)⟩, ⟨by (with_reducible repeat (first | refine bqZ ?_ _ | refine bqY ?_ | refine bqX ?_ _)); refine blk_put (cs := #[.string a1, .int .i64 a0_1, .int .i64 a0_2, u244003]) ?_ 3 _ rfl; exact (have bk_ := BK243.out; bkA)⟩, ⟨hbA⟩⟩
        ·rw [if_neg c27] at H
         exact absurd H (by simp)
       ·rw [if_neg c26] at H
        have c26b0 : ((bt a0_3 x17_1) == 82) = false := beq_eq_false_iff_ne.mpr c26
        have c26b1 : ((bt a0_3 x17_1) != 82) = true := bne_iff_ne.mpr c26
        by_cases c36 : x244003_1.length < 17592186044416
        ·rw [if_pos c36] at H
         have LMc36 := Aside0.mk c36
         clear c36
         obtain ⟨y250, hy250⟩ : ∃ y_ : List Int, y_ = (x244003_1 ++ [3]) := ⟨_, rfl⟩
         replace H : (forms_group_form.l0 k1 (a0_3.size : Int) (wrap64 (x17_1 + 1)) a0_0 a0_1 a0_2 a0_3 a1 a0_1 a0_2 y250) = some (r1, r2, r3, r4) := by first | (rw [hy250]; with_reducible exact H) | (have H2_ := (Option.bind_some _ _).symm.trans H; rw [hy250]; with_reducible exact H2_) | (have H2_ := (Option.bind_some _ _).symm.trans H; with_reducible exact H2_) | with_reducible exact H | (rw [hy250]; exact H) | exact H
         have Ny250 := Aside0.mk hy250
         clear hy250
         have H' := Aside0.mk H
         clear H
         have hnb37 := NB241_242.out
         have hnc37 := NB242_241.out
         have hnb38 := NB241_243.out
         have hnc38 := NB243_241.out
         obtain ⟨hcz39_0, hcz39_1, hcz39_2, hcz39_3⟩ := cellsA4 BK241.out
         obtain ⟨hfz39_0, hfz39_1, hfz39_2, hfz39_3⟩ := frozA4 BK241.out
         have p15 : 0 ≤ (x17_1 : Int) := of_decide_eq_true kA
         have q15 : x17_1 < (a0_3.size : Int) := of_decide_eq_true kA
         have hx15 := bt_at a0_3 x17_1
         replace p15 := eq_true p15
         replace q15 := eq_true q15
         have hnb40 := NB243_242.out
         have hnc40 := NB242_243.out
         obtain ⟨hcz41_0, hcz41_1, hcz41_2, hcz41_3⟩ := cellsA4 BK243.out
         obtain ⟨hfz41_0, hfz41_1, hfz41_2, hfz41_3⟩ := frozA4 BK243.out
         go_wp2_with (first | ((with_reducible refine gate_builtin (b := .append) (xs := #[.tmp 29, .tmp 31]) rfl ?_); at_builtin; refine Kd.R_append (Kd.int .i64) (w0 := w) w.heap.size rfl (.tmp 29) (.tmp 31) 22 62 (.int .i64 0) 8 rfl Tryz.underlying22 info62 rfl (by decide) (by omega) u244003 x244003_1 3 [.int .i64 3] (fun _ => True) (fun _ => False) rfl rfl ?aP (fun _ hk => hk.elim) ?aF ?aO ?aB ?aS ?aL ?_; (case aP => exact rfl); (case aB => exact (hbA)); (case aF => exact (fun _ _ => trivial)); (case aO => exact (by (with_reducible repeat (first | apply Kd.R_alloc | apply Kd.R_drewN | apply Kd.R_drew)); exact HO_244003.out)); (case aS => exact (below_size (hbA))); (case aL => have := LMc36.out; omega); intro v251 w42 ho hb hg hat; rw [← Ny250.out] at ho; have n0_ := Aside0.mk (blk_grown (g := gb241) (o := .cells #[.string a0_0, .int .i64 a0_1, .int .i64 a0_2, .string a0_3] 68 (0, 0)) (have bk_ := BK241.out; bkA) hg (Kd.R_ne HO_244003.out BK241.out (by decide))); have n1_ := Aside0.mk (blk_grown (g := gb242) (o := .cells #[.string (⟨#[]⟩ : ByteArray), .int .i64 0, .int .i64 0, .slice none 0 0] 24 (0, 0)) (have bk_ := BK242.out; bkA) hg (Kd.R_ne HO_244003.out BK242.out (by decide))); have n2_ := Aside0.mk (blk_grown (g := gb243) (o := .cells #[.string a1, .int .i64 a0_1, .int .i64 a0_2, u244003] 24 (0, 0)) (have bk_ := BK243.out; bkA) hg (Kd.R_ne HO_244003.out BK243.out (by decide))); have n3_ := Aside0.mk (hb); have n4_ := Aside0.mk (ho); clear BK241; clear BK242; clear BK243; clear HB; clear HO_244003; have BK241 := n0_; have BK242 := n1_; have BK243 := n2_; have HB := n3_; have HO252 := n4_; clear n0_ n1_ n2_ n3_ n4_; clear ho hb hg hat; obtain ⟨Ao43, co43, eo43⟩ := Kd.R_slice HO252.out; subst eo43; obtain ⟨hcz44_0, hcz44_1, hcz44_2, hcz44_3⟩ := cellsA4 BK243.out; obtain ⟨hfz44_0, hfz44_1, hfz44_2, hfz44_3⟩ := frozA4 BK243.out))
         go_roundg k1
         case measure => have := HK1.out; omega
         case rel => exact ⟨(wrap64 (x17_1 + 1)), (y250), (.slice Ao43 y250.length co43), (rflS), H', ⟨by have := HK1.out; omega⟩, ⟨by (with_reducible repeat (first | apply Kd.R_alloc | apply Kd.R_drewN | apply Kd.R_drew)); exact Kd.R_mono (Kd.R_far (p := ⟨gb243, 3, none⟩) (Kd.R_types HO252.out BK243.out (by decide)) (fun _ hk => hk.2) (.slice Ao43 y250.length co43)) (fun _ hk => trivial)⟩, ⟨by (with_reducible repeat (first | refine bqZ ?_ _ | refine bqY ?_ | refine bqX ?_ _)); refine blk_far ?_ NB241_243.out _; exact (have bk_ := BK241.out; bkA)⟩, ⟨by (with_reducible repeat (first | refine bqZ ?_ _ | refine bqY ?_ | refine bqX ?_ _)); refine blk_far ?_ NB242_243.out _; exact (have bk_ := BK242.out; bkA)⟩, ⟨by (with_reducible repeat (first | refine bqZ ?_ _ | refine bqY ?_ | refine bqX ?_ _)); refine blk_put (cs := #[.string a1, .int .i64 a0_1, .int .i64 a0_2, u244003]) ?_ 3 _ rfl; exact (have bk_ := BK243.out; bkA)⟩, ⟨hbA⟩⟩
        ·rw [if_neg c36] at H
         exact absurd H (by simp)
     ·rw [if_neg c14] at H
      exact absurd H (by simp)
    ·rw [if_neg c13] at H
     exact absurd H (by simp)
   ·rw [if_neg c12] at H
    have c12b0 : decide (x17_1 < (a0_3.size : Int)) = false := decide_eq_false c12
    clear c12
    simp only [Option.some.injEq, Prod.mk.injEq] at H
    obtain ⟨rfl, rfl, rfl, rfl⟩ := H
    have hnb45 := NB243_241.out
    have hnc45 := NB241_243.out
    have hnb46 := NB243_242.out
    have hnc46 := NB242_243.out
    obtain ⟨hcz47_0, hcz47_1, hcz47_2, hcz47_3⟩ := cellsA4 BK243.out
    obtain ⟨hfz47_0, hfz47_1, hfz47_2, hfz47_3⟩ := frozA4 BK243.out
    have hnb48 := NB242_241.out
    have hnc48 := NB241_242.out
    obtain ⟨hcz49_0, hcz49_1, hcz49_2, hcz49_3⟩ := cellsA4 BK242.out
    obtain ⟨hfz49_0, hfz49_1, hfz49_2, hfz49_3⟩ := frozA4 BK242.out
    obtain ⟨Ao50, co50, eo50⟩ := Kd.R_slice HO_244003.out
    subst eo50
    go_wp2
    refine bodyPost_ret (results_cell_row rfl _ _ gb242 24 #[.string a1, .int .i64 a0_1, .int .i64 a0_2, .slice Ao50 x244003_1.length co50] (0, 0) _ rfl (by (with_reducible repeat (first | refine bqZ ?_ _ | refine bqY ?_ | refine bqX ?_ _)); refine put4 (.string (⟨#[]⟩ : ByteArray)) (.int .i64 0) (.int .i64 0) (.slice none 0 0) ?_; exact (have bk_ := BK242.out; bkA)) Tryz.underlying24 rfl (by kernel_rfl)) rfl ?_
    exact ⟨_, rflE, by (with_reducible repeat (first | apply Kd.R_alloc | apply Kd.R_drewN | apply Kd.R_drew)); exact Kd.R_mono (Kd.R_far (p := ⟨gb242, 3, none⟩) (Kd.R_far (p := ⟨gb242, 2, none⟩) (Kd.R_far (p := ⟨gb242, 1, none⟩) (Kd.R_far (p := ⟨gb242, 0, none⟩) (Kd.R_types HO_244003.out BK242.out (by decide)) (fun _ hk => hk.2) (.string a1)) (fun _ hk => hk.2) (.int .i64 a0_1)) (fun _ hk => hk.2) (.int .i64 a0_2)) (fun _ hk => hk.2) (.slice Ao50 x244003_1.length co50)) (fun _ hk => trivial), hbA⟩
def forms_groups.f  : Option ((List (S68))) := some (([(⟨(⟨#[65, 66, 83, 32, 83, 73, 71, 78, 32, 73, 78, 84, 32, 83, 81, 82, 84, 32, 70, 65, 67, 84, 32, 69, 86, 69, 78, 32, 79, 68, 68]⟩ : ByteArray), 1, 1, (⟨#[86]⟩ : ByteArray)⟩ : S68), (⟨(⟨#[78, 79, 84, 32, 73, 83, 69, 82, 82, 79, 82, 32, 73, 83, 78, 65, 32, 73, 83, 66, 76, 65, 78, 75, 32, 73, 83, 78, 85, 77, 66, 69, 82, 32, 73, 83, 84, 69, 88, 84, 32, 73, 83, 76, 79, 71, 73, 67, 65, 76]⟩ : ByteArray), 1, 1, (⟨#[86]⟩ : ByteArray)⟩ : S68), (⟨(⟨#[76, 69, 78, 32, 85, 80, 80, 69, 82, 32, 76, 79, 87, 69, 82, 32, 84, 82, 73, 77, 32, 67, 72, 65, 82, 32, 67, 79, 68, 69, 32, 86, 65, 76, 85, 69, 32, 78, 32, 84]⟩ : ByteArray), 1, 1, (⟨#[86]⟩ : ByteArray)⟩ : S68), (⟨(⟨#[89, 69, 65, 82, 32, 77, 79, 78, 84, 72, 32, 68, 65, 89, 32, 87, 69, 69, 75, 68, 65, 89]⟩ : ByteArray), 1, 1, (⟨#[86]⟩ : ByteArray)⟩ : S68), (⟨(⟨#[78, 65]⟩ : ByteArray), 0, 0, (⟨#[]⟩ : ByteArray)⟩ : S68), (⟨(⟨#[82, 79, 85, 78, 68, 32, 82, 79, 85, 78, 68, 85, 80, 32, 82, 79, 85, 78, 68, 68, 79, 87, 78, 32, 77, 79, 68, 32, 80, 79, 87, 69, 82, 32, 81, 85, 79, 84, 73, 69, 78, 84, 32, 67, 69, 73, 76, 73, 78, 71, 32, 70, 76, 79, 79, 82]⟩ : ByteArray), 2, 2, (⟨#[86, 86]⟩ : ByteArray)⟩ : S68), (⟨(⟨#[73, 70, 69, 82, 82, 79, 82, 32, 73, 70, 78, 65, 32, 82, 69, 80, 84, 32, 69, 88, 65, 67, 84, 32, 84, 69, 88, 84, 32, 69, 68, 65, 84, 69, 32, 68, 65, 89, 83]⟩ : ByteArray), 2, 2, (⟨#[86, 86]⟩ : ByteArray)⟩ : S68), (⟨(⟨#[84, 82, 85, 78, 67, 32, 76, 69, 70, 84, 32, 82, 73, 71, 72, 84]⟩ : ByteArray), 1, 2, (⟨#[86, 86]⟩ : ByteArray)⟩ : S68), (⟨(⟨#[70, 73, 78, 68, 32, 83, 69, 65, 82, 67, 72]⟩ : ByteArray), 2, 3, (⟨#[86, 86, 86]⟩ : ByteArray)⟩ : S68), (⟨(⟨#[77, 73, 68, 32, 68, 65, 84, 69]⟩ : ByteArray), 3, 3, (⟨#[86, 86, 86]⟩ : ByteArray)⟩ : S68), (⟨(⟨#[82, 69, 80, 76, 65, 67, 69]⟩ : ByteArray), 4, 4, (⟨#[86, 86, 86, 86]⟩ : ByteArray)⟩ : S68), (⟨(⟨#[83, 85, 66, 83, 84, 73, 84, 85, 84, 69]⟩ : ByteArray), 3, 4, (⟨#[86, 86, 86, 86]⟩ : ByteArray)⟩ : S68), (⟨(⟨#[73, 70]⟩ : ByteArray), 2, 3, (⟨#[86, 86, 86]⟩ : ByteArray)⟩ : S68), (⟨(⟨#[67, 72, 79, 79, 83, 69]⟩ : ByteArray), 2, 30, (⟨#[86, 86]⟩ : ByteArray)⟩ : S68), (⟨(⟨#[65, 78, 68, 32, 79, 82, 32, 88, 79, 82]⟩ : ByteArray), 1, 30, (⟨#[65]⟩ : ByteArray)⟩ : S68), (⟨(⟨#[83, 85, 77, 32, 80, 82, 79, 68, 85, 67, 84, 32, 83, 85, 77, 83, 81, 32, 67, 79, 85, 78, 84, 32, 67, 79, 85, 78, 84, 65, 32, 67, 79, 85, 78, 84, 66, 76, 65, 78, 75, 32, 65, 86, 69, 82, 65, 71, 69, 32, 77, 73, 78, 32, 77, 65, 88, 32, 77, 69, 68, 73, 65, 78, 32, 77, 79, 68, 69, 32, 71, 67, 68, 32, 76, 67, 77, 32, 67, 79, 78, 67, 65, 84]⟩ : ByteArray), 1, 30, (⟨#[65]⟩ : ByteArray)⟩ : S68), (⟨(⟨#[83, 85, 77, 80, 82, 79, 68, 85, 67, 84]⟩ : ByteArray), 1, 30, (⟨#[82]⟩ : ByteArray)⟩ : S68), (⟨(⟨#[76, 65, 82, 71, 69, 32, 83, 77, 65, 76, 76]⟩ : ByteArray), 2, 2, (⟨#[82, 86]⟩ : ByteArray)⟩ : S68), (⟨(⟨#[82, 65, 78, 75]⟩ : ByteArray), 2, 3, (⟨#[86, 82, 86]⟩ : ByteArray)⟩ : S68), (⟨(⟨#[67, 79, 85, 78, 84, 73, 70]⟩ : ByteArray), 2, 2, (⟨#[82, 86]⟩ : ByteArray)⟩ : S68), (⟨(⟨#[83, 85, 77, 73, 70, 32, 65, 86, 69, 82, 65, 71, 69, 73, 70]⟩ : ByteArray), 2, 3, (⟨#[82, 86, 82]⟩ : ByteArray)⟩ : S68), (⟨(⟨#[86, 76, 79, 79, 75, 85, 80, 32, 72, 76, 79, 79, 75, 85, 80]⟩ : ByteArray), 3, 4, (⟨#[86, 82, 86, 86]⟩ : ByteArray)⟩ : S68), (⟨(⟨#[77, 65, 84, 67, 72]⟩ : ByteArray), 2, 3, (⟨#[86, 82, 86]⟩ : ByteArray)⟩ : S68), (⟨(⟨#[73, 78, 68, 69, 88]⟩ : ByteArray), 2, 3, (⟨#[82, 86, 86]⟩ : ByteArray)⟩ : S68), (⟨(⟨#[82, 79, 87, 83, 32, 67, 79, 76, 85, 77, 78, 83, 32, 82, 79, 87, 32, 67, 79, 76, 85, 77, 78]⟩ : ByteArray), 1, 1, (⟨#[82]⟩ : ByteArray)⟩ : S68)] : List (S68)))
def forms_groups.cs : List S68 → List Value
 | [] => []
 | g :: r => .string g.f0 :: .int .i64 g.f1 :: .int .i64 g.f2 :: .string g.f3 :: forms_groups.cs r
theorem forms_groups.reps (w : World) (b : Nat) (ok : Nat → Prop) : ∀ G : List S68, Reps (Kd.M k68 w b ok) k68.sz G (forms_groups.cs G)
 | [] => Reps.none _ _
 | g :: r => Reps.c4 (k68_mkM _ _ _ g) (forms_groups.reps w b ok r)
theorem forms_groups.lit (w : World) (G : List S68) (h : G.length ≤ 9223372036854775807) : Kd.R k68 68 (w.alloc (.cells (forms_groups.cs G).toArray 68)) w.heap.size (fun _ => True) (.slice (some ⟨w.heap.size, 0, none⟩) G.length G.length) G := by
 have hr := forms_groups.reps (w.alloc (.cells (forms_groups.cs G).toArray 68)) w.heap.size (fun k => True ∧ some k ≠ (Value.slice (some ⟨w.heap.size, 0, none⟩) G.length G.length).ownBlock) G
 refine ⟨fun _ _ => trivial, forms_groups.cs G, ?_, hr⟩
 have h2 := World.ownsRow_lit (base := w.heap.size) (e := 68) (size := k68.sz) w (forms_groups.cs G).toArray G.length (Nat.le_refl _) (by simpa [maxLen] using h) (by simpa using hr.1)
 simpa using h2
theorem forms_groups.calls  (r : List (S68)) (w : World) (h : forms_groups.f  = some r) :
  Calls Tryz.prog 25 #[] w fun e w' => ∃ v0_ : Value, e = .returned (v0_) ∧ Kd.R k68 68 w' w.heap.size (fun _ => True) v0_ r ∧ Below w.heap.size w w' := by
 obtain rfl : forms_groups.f.getD [] = r := by rw [h]; rfl
 clear h
 go_enter Tryz.func25, Tryz.ntmps25
 go_wp2
 go_ret
 refine ⟨_, rfl, ?_, bqA (Below.refl _ _) _⟩
 exact forms_groups.lit w (forms_groups.f.getD []) (show 25 ≤ 9223372036854775807 by decide)
def foolscapref09_table.f  : Option ((List (S76))) := some (([(⟨(⟨#[65, 66, 83, 32, 83, 73, 71, 78, 32, 73, 78, 84, 32, 83, 81, 82, 84, 32, 70, 65, 67, 84, 32, 69, 86, 69, 78, 32, 79, 68, 68, 32, 78, 79, 84, 32, 73, 83, 69, 82, 82, 79, 82, 32, 73, 83, 78, 65, 32, 73, 83, 66, 76, 65, 78, 75, 32, 73, 83, 78, 85, 77, 66, 69, 82, 32, 73, 83, 84, 69, 88, 84, 32, 73, 83, 76, 79, 71, 73, 67, 65, 76, 32, 76, 69, 78, 32, 85, 80, 80, 69, 82, 32, 76, 79, 87, 69, 82, 32, 84, 82, 73, 77, 32, 67, 72, 65, 82, 32, 67, 79, 68, 69, 32, 86, 65, 76, 85, 69, 32, 78, 32, 84, 32, 89, 69, 65, 82, 32, 77, 79, 78, 84, 72, 32, 68, 65, 89, 32, 87, 69, 69, 75, 68, 65, 89]⟩ : ByteArray), 1, 1, (⟨#[86]⟩ : ByteArray)⟩ : S76), (⟨(⟨#[78, 65]⟩ : ByteArray), 0, 0, (⟨#[]⟩ : ByteArray)⟩ : S76), (⟨(⟨#[82, 79, 85, 78, 68, 32, 82, 79, 85, 78, 68, 85, 80, 32, 82, 79, 85, 78, 68, 68, 79, 87, 78, 32, 77, 79, 68, 32, 80, 79, 87, 69, 82, 32, 81, 85, 79, 84, 73, 69, 78, 84, 32, 67, 69, 73, 76, 73, 78, 71, 32, 70, 76, 79, 79, 82, 32, 73, 70, 69, 82, 82, 79, 82, 32, 73, 70, 78, 65, 32, 82, 69, 80, 84, 32, 69, 88, 65, 67, 84, 32, 84, 69, 88, 84, 32, 69, 68, 65, 84, 69, 32, 68, 65, 89, 83]⟩ : ByteArray), 2, 2, (⟨#[86, 86]⟩ : ByteArray)⟩ : S76), (⟨(⟨#[84, 82, 85, 78, 67, 32, 76, 69, 70, 84, 32, 82, 73, 71, 72, 84]⟩ : ByteArray), 1, 2, (⟨#[86, 86]⟩ : ByteArray)⟩ : S76), (⟨(⟨#[70, 73, 78, 68, 32, 83, 69, 65, 82, 67, 72]⟩ : ByteArray), 2, 3, (⟨#[86, 86, 86]⟩ : ByteArray)⟩ : S76), (⟨(⟨#[77, 73, 68, 32, 68, 65, 84, 69]⟩ : ByteArray), 3, 3, (⟨#[86, 86, 86]⟩ : ByteArray)⟩ : S76), (⟨(⟨#[82, 69, 80, 76, 65, 67, 69]⟩ : ByteArray), 4, 4, (⟨#[86, 86, 86, 86]⟩ : ByteArray)⟩ : S76), (⟨(⟨#[83, 85, 66, 83, 84, 73, 84, 85, 84, 69]⟩ : ByteArray), 3, 4, (⟨#[86, 86, 86, 86]⟩ : ByteArray)⟩ : S76), (⟨(⟨#[73, 70]⟩ : ByteArray), 2, 3, (⟨#[86, 86, 86]⟩ : ByteArray)⟩ : S76), (⟨(⟨#[67, 72, 79, 79, 83, 69]⟩ : ByteArray), 2, 30, (⟨#[86, 86]⟩ : ByteArray)⟩ : S76), (⟨(⟨#[65, 78, 68, 32, 79, 82, 32, 88, 79, 82, 32, 83, 85, 77, 32, 80, 82, 79, 68, 85, 67, 84, 32, 83, 85, 77, 83, 81, 32, 67, 79, 85, 78, 84, 32, 67, 79, 85, 78, 84, 65, 32, 67, 79, 85, 78, 84, 66, 76, 65, 78, 75, 32, 65, 86, 69, 82, 65, 71, 69, 32, 77, 73, 78, 32, 77, 65, 88, 32, 77, 69, 68, 73, 65, 78, 32, 77, 79, 68, 69, 32, 71, 67, 68, 32, 76, 67, 77, 32, 67, 79, 78, 67, 65, 84]⟩ : ByteArray), 1, 30, (⟨#[65]⟩ : ByteArray)⟩ : S76), (⟨(⟨#[83, 85, 77, 80, 82, 79, 68, 85, 67, 84]⟩ : ByteArray), 1, 30, (⟨#[82]⟩ : ByteArray)⟩ : S76), (⟨(⟨#[76, 65, 82, 71, 69, 32, 83, 77, 65, 76, 76]⟩ : ByteArray), 2, 2, (⟨#[82, 86]⟩ : ByteArray)⟩ : S76), (⟨(⟨#[82, 65, 78, 75]⟩ : ByteArray), 2, 3, (⟨#[86, 82, 86]⟩ : ByteArray)⟩ : S76), (⟨(⟨#[67, 79, 85, 78, 84, 73, 70]⟩ : ByteArray), 2, 2, (⟨#[82, 86]⟩ : ByteArray)⟩ : S76), (⟨(⟨#[83, 85, 77, 73, 70, 32, 65, 86, 69, 82, 65, 71, 69, 73, 70]⟩ : ByteArray), 2, 3, (⟨#[82, 86, 82]⟩ : ByteArray)⟩ : S76), (⟨(⟨#[86, 76, 79, 79, 75, 85, 80, 32, 72, 76, 79, 79, 75, 85, 80]⟩ : ByteArray), 3, 4, (⟨#[86, 82, 86, 86]⟩ : ByteArray)⟩ : S76), (⟨(⟨#[77, 65, 84, 67, 72]⟩ : ByteArray), 2, 3, (⟨#[86, 82, 86]⟩ : ByteArray)⟩ : S76), (⟨(⟨#[73, 78, 68, 69, 88]⟩ : ByteArray), 2, 3, (⟨#[82, 86, 86]⟩ : ByteArray)⟩ : S76), (⟨(⟨#[82, 79, 87, 83, 32, 67, 79, 76, 85, 77, 78, 83, 32, 82, 79, 87, 32, 67, 79, 76, 85, 77, 78]⟩ : ByteArray), 1, 1, (⟨#[82]⟩ : ByteArray)⟩ : S76)] : List (S76)))
def foolscapref09_table.cs : List S76 → List Value
 | [] => []
 | g :: r => .string g.f0 :: .int .i64 g.f1 :: .int .i64 g.f2 :: .string g.f3 :: foolscapref09_table.cs r
theorem foolscapref09_table.reps (w : World) (b : Nat) (ok : Nat → Prop) : ∀ G : List S76, Reps (Kd.M k76 w b ok) k76.sz G (foolscapref09_table.cs G)
 | [] => Reps.none _ _
 | g :: r => Reps.c4 (k76_mkM _ _ _ g) (foolscapref09_table.reps w b ok r)
theorem foolscapref09_table.lit (w : World) (G : List S76) (h : G.length ≤ 9223372036854775807) : Kd.R k76 76 (w.alloc (.cells (foolscapref09_table.cs G).toArray 76)) w.heap.size (fun _ => True) (.slice (some ⟨w.heap.size, 0, none⟩) G.length G.length) G := by
 have hr := foolscapref09_table.reps (w.alloc (.cells (foolscapref09_table.cs G).toArray 76)) w.heap.size (fun k => True ∧ some k ≠ (Value.slice (some ⟨w.heap.size, 0, none⟩) G.length G.length).ownBlock) G
 refine ⟨fun _ _ => trivial, foolscapref09_table.cs G, ?_, hr⟩
 have h2 := World.ownsRow_lit (base := w.heap.size) (e := 76) (size := k76.sz) w (foolscapref09_table.cs G).toArray G.length (Nat.le_refl _) (by simpa [maxLen] using h) (by simpa using hr.1)
 simpa using h2
theorem foolscapref09_table.calls  (r : List (S76)) (w : World) (h : foolscapref09_table.f  = some r) :
  Calls Tryz.prog 29 #[] w fun e w' => ∃ v0_ : Value, e = .returned (v0_) ∧ Kd.R k76 76 w' w.heap.size (fun _ => True) v0_ r ∧ Below w.heap.size w w' := by
 obtain rfl : foolscapref09_table.f.getD [] = r := by rw [h]; rfl
 clear h
 go_enter Tryz.func29, Tryz.ntmps29
 go_wp2
 go_ret
 refine ⟨_, rfl, ?_, bqA (Below.refl _ _) _⟩
 exact foolscapref09_table.lit w (foolscapref09_table.f.getD []) (show 20 ≤ 9223372036854775807 by decide)
end Go.Proofs.YtopdjokncbpghaaGreatDoor.Pr
end
