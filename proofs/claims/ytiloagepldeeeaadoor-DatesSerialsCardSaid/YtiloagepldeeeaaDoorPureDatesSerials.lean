/-
  The law DatesSerials, over whole numbers alone, and the walk that follows.
-/
import Derived.Test.YtiloagepldeeeaaDoorPr3
import Derived.Test.YtiloagepldeeeaaDoorPr7
import Derived.Test.YtiloagepldeeeaaDoorPDatesLives
namespace Go.Proofs.YtiloagepldeeeaaDoor.Pr
set_option linter.unusedVariables false
set_option linter.unusedSimpArgs false
open Go.RowKit Go.Proofs.YtiloagepldeeeaaDoorW.PrintWords Go.Proofs.YtiloagepldeeeaaDoorW.PrintMore
theorem DatesSerials_pure (a0 a1 a2 : Int) : foolscaplaw11_DatesSerials.f 20010 a0 a1 a2 = some true := by
  unfold foolscaplaw11_DatesSerials.f
  rw [dates_Serial_eq 20010 (by decide), ref11_Serial_eq 20010 (by decide), dates_Leap_eq, ref11_Leap_eq, dates_lives 20010 (by decide)]
  simp
theorem DatesSerials_walk (a0 a1 a2 : Int) (w : World) (w0 : (Lit.int .i64 a0).wf = true) (w1 : (Lit.int .i64 a1).wf = true) (w2 : (Lit.int .i64 a2).wf = true) (hL : Aside0 (LaidW w)) :
    Calls Tryd.prog 3 #[.int .i64 a0, .int .i64 a1, .int .i64 a2] w fun e w' => e = .returned (.bool true) ∧ Below w.heap.size w w' :=
  foolscaplaw11_DatesSerials.calls 20010 a0 a1 a2 true w (DatesSerials_pure a0 a1 a2) hL
end Go.Proofs.YtiloagepldeeeaaDoor.Pr
