/-
  The law DatesTexts, over texts and whole numbers alone, and the walk that follows.
-/
import Derived.Test.YtiloagepldeeeaaDoorPr11
import Derived.Test.YtiloagepldeeeaaDoorPDatesParse
import Derived.Test.YtiloagepldeeeaaDoorPDatesLives
namespace Go.Proofs.YtiloagepldeeeaaDoor.Pr
set_option linter.unusedVariables false
set_option linter.unusedSimpArgs false
open Go.RowKit Go.Proofs.YtiloagepldeeeaaDoorW.PrintWords Go.Proofs.YtiloagepldeeeaaDoorW.PrintMore
theorem DatesTexts_pure (a0 : ByteArray) : foolscaplaw11_DatesTexts.f 20100 a0 = some true := by
  rw [← bl_of a0]
  unfold foolscaplaw11_DatesTexts.f
  rw [dates_Parse_eq 20100 (by decide), Option.bind_some, ref11_Parse_eq 20100 (by decide), Option.bind_some, if_pos rfl, if_pos rfl, dates_lives 20100 (by decide), Option.bind_some]
theorem DatesTexts_walk (a0 : ByteArray) (w : World) (w0 : a0.size ≤ 140737488351232) (hL : Aside0 (LaidW w)) :
    Calls Tryd.prog 5 #[.string a0] w fun e w' => e = .returned (.bool true) ∧ Below w.heap.size w w' :=
  foolscaplaw11_DatesTexts.calls 20100 a0 true w (DatesTexts_pure a0) hL
end Go.Proofs.YtiloagepldeeeaaDoor.Pr
