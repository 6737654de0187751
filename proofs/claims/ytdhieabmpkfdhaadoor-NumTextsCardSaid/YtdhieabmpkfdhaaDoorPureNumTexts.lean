/-
  The law NumTexts, over texts and whole numbers alone, and the walk that follows.
-/
import Derived.Test.YtdhieabmpkfdhaaDoorPr17
import Derived.Test.YtdhieabmpkfdhaaDoorPNumPrint
import Derived.Test.YtdhieabmpkfdhaaDoorPNum
namespace Go.Proofs.YtdhieabmpkfdhaaDoor.Pr
set_option linter.unusedVariables false
set_option linter.unusedSimpArgs false
open Go.RowKit Go.Proofs.YtdhieabmpkfdhaaDoorW.PrintWords Go.Proofs.YtdhieabmpkfdhaaDoorW.PrintMore
theorem NumTexts_pure (a0 : ByteArray) (a1 : Int) : foolscaplaw01_NumTexts.f 400 a0 a1 = some true := by
  rw [← bl_of a0]
  unfold foolscaplaw01_NumTexts.f
  rw [num_Parse_eq 400 (by decide), Option.bind_some, ref01_Parse_eq 400 (by decide), Option.bind_some, num_Print_all, Option.bind_some, ref01_Print_all 400 (by decide), Option.bind_some, if_pos rfl, if_pos rfl, if_pos rfl, if_pos rfl, num_lives 400 (by decide), Option.bind_some]
theorem NumTexts_walk (a0 : ByteArray) (a1 : Int) (w : World) (w0 : a0.size ≤ 140737488351232) (w1 : (Lit.int .i64 a1).wf = true) (hL : Aside0 (LaidW w)) :
    Calls Tryd.prog 8 #[.string a0, .int .i64 a1] w fun e w' => e = .returned (.bool true) ∧ Below w.heap.size w w' :=
  foolscaplaw01_NumTexts.calls 400 a0 a1 true w (NumTexts_pure a0 a1) hL
end Go.Proofs.YtdhieabmpkfdhaaDoor.Pr
