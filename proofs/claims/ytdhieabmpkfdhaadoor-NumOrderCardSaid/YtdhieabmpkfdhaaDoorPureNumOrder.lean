/-
  The law NumOrder, over whole numbers alone, and the walk that follows.
-/
import Derived.Test.YtdhieabmpkfdhaaDoorPr7
import Derived.Test.YtdhieabmpkfdhaaDoorPNum
namespace Go.Proofs.YtdhieabmpkfdhaaDoor.Pr
set_option linter.unusedVariables false
open Go.RowKit Go.Proofs.YtdhieabmpkfdhaaDoorW.PrintWords Go.Proofs.YtdhieabmpkfdhaaDoorW.PrintMore
theorem num_Add_is (a b : Int) : num_Add.f a b = some (if num_fits a = true ∧ num_fits b = true then (if num_fits (a + b) = true then (a + b, 0) else (0, 3)) else (0, 2)) := by
  unfold num_Add.f
  rw [num_Fits_eq, num_Fits_eq]
  simp only [Option.bind_some]
  cases ha : num_fits a with
  | false => simp
  | true =>
    cases hb : num_fits b with
    | false => simp
    | true =>
      have := num_fits_le ha
      have := num_fits_le hb
      rw [w64 (by omega) (by omega), num_told_eq]
      simp
theorem num_Sub_is (a b : Int) : num_Sub.f a b = some (if num_fits a = true ∧ num_fits b = true then (if num_fits (a - b) = true then (a - b, 0) else (0, 3)) else (0, 2)) := by
  unfold num_Sub.f
  rw [num_Fits_eq, num_Fits_eq]
  simp only [Option.bind_some]
  cases ha : num_fits a with
  | false => simp
  | true =>
    cases hb : num_fits b with
    | false => simp
    | true =>
      have := num_fits_le ha
      have := num_fits_le hb
      rw [w64 (by omega) (by omega), num_told_eq]
      simp
theorem num_Mul_comm (a b : Int) : num_Mul.f a b = num_Mul.f b a := by
  have hs : ∀ n, num_signed a b n = num_signed b a n := fun n => by unfold num_signed; rw [show (decide (a < 0) == decide (b < 0)) = (decide (b < 0) == decide (a < 0)) from Bool.beq_comm]
  unfold num_Mul.f
  rw [Int.mul_comm (a.natAbs : Int) b.natAbs]
  simp only [hs]
  cases num_fits a <;> cases num_fits b <;> simp
theorem num_Mul_unit (a : Int) : ∃ x, num_Mul.f a 1000000 = some x ∧ (num_fits a = true → x = (a, 0)) ∧ (num_fits a = false → x.2 = 2) := by
  unfold num_Mul.f
  rw [show num_fits 1000000 = true by decide +kernel]
  cases ha : num_fits a with
  | false => exact ⟨_, rfl, by simp, fun _ => rfl⟩
  | true =>
    have := num_fits_le ha
    rw [show ((1000000 : Int).natAbs : Int) = 1000000 by decide, num_over_exact a.natAbs 1000000 (by omega) (by omega) (by omega) (by omega)]
    simp [num_signed_self a 1000000 (by omega)]
theorem num_Div_unit (a : Int) : ∃ x, num_Div.f a 1000000 = some x ∧ (num_fits a = true → x = (a, 0)) ∧ (num_fits a = false → x.2 = 2) := by
  unfold num_Div.f
  rw [show num_fits 1000000 = true by decide +kernel]
  cases ha : num_fits a with
  | false => exact ⟨_, rfl, by simp, fun _ => rfl⟩
  | true =>
    have := num_fits_le ha
    rw [show ((1000000 : Int).natAbs : Int) = 1000000 by decide, num_over_exact a.natAbs 1000000 (by omega) (by omega) (by omega) (by omega)]
    simp [num_signed_self a 1000000 (by omega)]
theorem NumOrder_j1 (a : Int) : foolscaplaw01_NumOrder.j1 2 a = some true := by
  obtain ⟨x, h1, h2, h3⟩ := num_Mul_unit a
  obtain ⟨y, h4, h5, h6⟩ := num_Div_unit a
  simp only [foolscaplaw01_NumOrder.j1]
  rw [h1, h4, num_Fits_eq, num_lives 1 (Nat.le_refl _)]
  cases ha : num_fits a with
  | true => rw [h2 ha, h5 ha]; simp
  | false => simp [h3 ha, h6 ha]
theorem NumOrder_pure (a b : Int) : foolscaplaw01_NumOrder.f 3 a b = some true := by
  unfold foolscaplaw01_NumOrder.f
  obtain ⟨m, hm⟩ : ∃ m, num_Mul.f b a = some m := by
    unfold num_Mul.f
    split
    · split
      · split <;> exact ⟨_, rfl⟩
      · exact ⟨_, rfl⟩
    · exact ⟨_, rfl⟩
  have hc : num_Add.f b a = num_Add.f a b := by
    rw [num_Add_is, num_Add_is, Int.add_comm b a]
    cases num_fits a <;> cases num_fits b <;> simp
  rw [num_Mul_comm a b, hm, hc, num_Add_is]
  simp only [Option.bind_some, if_true, bne_self_eq_false]
  simp only [foolscaplaw01_NumOrder.j0]
  simp only [Bool.false_eq_true, if_false]
  by_cases hab : num_fits a = true ∧ num_fits b = true
  · rw [if_pos hab]
    by_cases hs : num_fits (a + b) = true
    · rw [if_pos hs]
      simp only
      rw [if_pos trivial, num_Sub_is, if_pos ⟨hs, hab.2⟩, show a + b - b = a by omega, if_pos hab.1]
      simp only [Option.bind_some, if_true]
      exact NumOrder_j1 a
    · rw [if_neg hs]
      exact NumOrder_j1 a
  · rw [if_neg hab]
    exact NumOrder_j1 a
theorem NumOrder_walk (a0 a1 : Int) (w : World) (w0 : (Lit.int .i64 a0).wf = true) (w1 : (Lit.int .i64 a1).wf = true) (hL : Aside0 (LaidW w)) :
    Calls Tryd.prog 7 #[.int .i64 a0, .int .i64 a1] w fun e w' => e = .returned (.bool true) ∧ Below w.heap.size w w' :=
  foolscaplaw01_NumOrder.calls 3 a0 a1 true w (NumOrder_pure a0 a1) hL
end Go.Proofs.YtdhieabmpkfdhaaDoor.Pr
