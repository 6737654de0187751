/-
  The law DatesParts, over whole numbers alone, and the walk that follows.
-/
import Derived.Test.YtiloagepldeeeaaDoorPr15
import Derived.Test.YtiloagepldeeeaaDoorPDatesLives
namespace Go.Proofs.YtiloagepldeeeaaDoor.Pr
set_option linter.unusedVariables false
set_option linter.unusedSimpArgs false
open Go.RowKit Go.Proofs.YtiloagepldeeeaaDoorW.PrintWords Go.Proofs.YtiloagepldeeeaaDoorW.PrintMore
theorem DatesParts_pure (a0 : Int) : foolscaplaw11_DatesParts.f 20010 a0 = some true := by
  unfold foolscaplaw11_DatesParts.f
  rw [dates_Parts_eq, ref11_Parts_eq 20010 (by decide), ref11_Weekday_eq, dates_Weekday_eq, ref11_Print_any 20010 (by decide), dates_Print_any, dates_lives 20010 (by decide)]
  simp
theorem DatesParts_walk (a0 : Int) (w : World) (w0 : (Lit.int .i64 a0).wf = true) (hL : Aside0 (LaidW w)) :
    Calls Tryd.prog 8 #[.int .i64 a0] w fun e w' => e = .returned (.bool true) ∧ Below w.heap.size w w' :=
  foolscaplaw11_DatesParts.calls 20010 a0 true w (DatesParts_pure a0) hL
end Go.Proofs.YtiloagepldeeeaaDoor.Pr
