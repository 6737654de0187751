/-
  The law DatesMonths, over whole numbers alone, and the walk that follows.
-/
import Derived.Test.YtiloagepldeeeaaDoorPr9
import Derived.Test.YtiloagepldeeeaaDoorPDatesMonths
import Derived.Test.YtiloagepldeeeaaDoorPDatesLives
namespace Go.Proofs.YtiloagepldeeeaaDoor.Pr
set_option linter.unusedVariables false
set_option linter.unusedSimpArgs false
open Go.RowKit Go.Proofs.YtiloagepldeeeaaDoorW.PrintWords Go.Proofs.YtiloagepldeeeaaDoorW.PrintMore
theorem DatesMonths_pure (a0 a1 : Int) : foolscaplaw11_DatesMonths.f 20010 a0 a1 = some true := by
  unfold foolscaplaw11_DatesMonths.f
  rw [dates_Months_eq 20010 (by decide), Option.bind_some, ref11_Months_eq 20010 (by decide), Option.bind_some, if_pos rfl, if_pos rfl, dates_lives 20010 (by decide), Option.bind_some]
theorem DatesMonths_walk (a0 a1 : Int) (w : World) (w0 : (Lit.int .i64 a0).wf = true) (w1 : (Lit.int .i64 a1).wf = true) (hL : Aside0 (LaidW w)) :
    Calls Tryd.prog 4 #[.int .i64 a0, .int .i64 a1] w fun e w' => e = .returned (.bool true) ∧ Below w.heap.size w w' :=
  foolscaplaw11_DatesMonths.calls 20010 a0 a1 true w (DatesMonths_pure a0 a1) hL
end Go.Proofs.YtiloagepldeeeaaDoor.Pr
