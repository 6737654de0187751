/-
  The law DatesLeap, over whole numbers alone, and the walk that follows.
-/
import Derived.Test.YtiloagepldeeeaaDoorPr12
import Derived.Test.YtiloagepldeeeaaDoorPr3
import Derived.Test.YtiloagepldeeeaaDoorPDatesLives
namespace Go.Proofs.YtiloagepldeeeaaDoor.Pr
set_option linter.unusedVariables false
set_option linter.unusedSimpArgs false
open Go.RowKit Go.Proofs.YtiloagepldeeeaaDoorW.PrintWords Go.Proofs.YtiloagepldeeeaaDoorW.PrintMore
theorem serialZ_first (y : Int) (h0 : 1900 ≤ y) (h1 : y ≤ 9999) : serialZ y 1 1 = (numZ y 1 1, 0) ∧ 1 ≤ numZ y 1 1 ∧ numZ y 1 1 ≤ 2958464 := by
  have hr : 1 ≤ numZ y 1 1 ∧ numZ y 1 1 ≤ 2958464 := by unfold numZ; rw [cumZ_first]; unfold dayZ; omega
  unfold serialZ
  rw [if_neg (by omega), if_neg (by omega), show (12 * y + 1 - 1) / 12 = y by omega, show (12 * y + 1 - 1) % 12 + 1 = 1 by omega, if_pos hr]
  exact ⟨rfl, hr⟩
theorem serialZ_next (y : Int) (h0 : 1900 ≤ y) (h1 : y ≤ 9998) : serialZ y 13 1 = (numZ (y + 1) 1 1, 0) := by
  have hr : 1 ≤ numZ (y + 1) 1 1 ∧ numZ (y + 1) 1 1 ≤ 2958464 := (serialZ_first (y + 1) (by omega) (by omega)).2
  unfold serialZ
  rw [if_neg (by omega), if_neg (by omega), show (12 * y + 13 - 1) / 12 = y + 1 by omega, show (12 * y + 13 - 1) % 12 + 1 = 1 by omega, if_pos hr]
theorem DatesLeap_pure (a0 : Int) : foolscaplaw11_DatesLeap.f 10 a0 = some true := by
  have out : foolscaplaw11_DatesLeap.j0 10 a0 true = some true := by simp only [foolscaplaw11_DatesLeap.j0]; rw [dates_lives 9 (by decide)]; simp
  unfold foolscaplaw11_DatesLeap.f
  by_cases c1 : a0 < 1900
  · rw [if_pos c1, out]
  · rw [if_neg c1]
    by_cases c2 : a0 > 9998
    · rw [decide_eq_true c2, out]
    · rw [decide_eq_false c2]
      have hs := dayZ_succ a0 (by omega)
      obtain ⟨e1, r1, r2⟩ := serialZ_first a0 (by omega) (by omega)
      obtain ⟨e2, r3, r4⟩ := serialZ_first (a0 + 1) (by omega) (by omega)
      have e3 := serialZ_next a0 (by omega) (by omega)
      have hd : numZ (a0 + 1) 1 1 - numZ a0 1 1 = 365 + lpZ a0 := by unfold numZ; rw [cumZ_first, cumZ_first]; omega
      have hv : lpZ a0 = if leapB a0 = true then 1 else 0 := rfl
      simp only [foolscaplaw11_DatesLeap.j0]
      rw [if_neg (by decide), w64 (a := a0 + 1) (by omega) (by omega), dates_Serial_eq 9 (by decide), dates_Serial_eq 9 (by decide), dates_Serial_eq 9 (by decide), e1, e2, e3, dates_Leap_eq, dates_lives 9 (by decide)]
      simp only [Option.bind_some]
      rw [w64 (by omega) (by omega), hd, hv]
      cases leapB a0 <;> decide
theorem DatesLeap_walk (a0 : Int) (w : World) (w0 : (Lit.int .i64 a0).wf = true) (hL : Aside0 (LaidW w)) :
    Calls Tryd.prog 6 #[.int .i64 a0] w fun e w' => e = .returned (.bool true) ∧ Below w.heap.size w w' :=
  foolscaplaw11_DatesLeap.calls 10 a0 true w (DatesLeap_pure a0) hL
end Go.Proofs.YtiloagepldeeeaaDoor.Pr
