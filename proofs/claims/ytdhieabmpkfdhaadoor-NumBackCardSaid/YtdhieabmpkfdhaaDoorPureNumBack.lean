/-
  The law NumBack, over texts and whole numbers alone, and the walk that follows.
-/
import Derived.Test.YtdhieabmpkfdhaaDoorPr18
import Derived.Test.YtdhieabmpkfdhaaDoorPNumPrint
import Derived.Test.YtdhieabmpkfdhaaDoorPNum
namespace Go.Proofs.YtdhieabmpkfdhaaDoor.Pr
set_option linter.unusedVariables false
set_option linter.unusedSimpArgs false
open Go.RowKit Go.Proofs.YtdhieabmpkfdhaaDoorW.PrintWords Go.Proofs.YtdhieabmpkfdhaaDoorW.PrintMore
theorem NumBack_j0 (l : List UInt8) : foolscaplaw01_NumBack.j0 10 (bl l) = some true := by
  simp only [foolscaplaw01_NumBack.j0]
  rw [num_Parse_eq 9 (by decide), Option.bind_some, num_lives 9 (by decide)]
  by_cases c : (numL l).2 = 0
  · have hf := numL_fit l c
    rw [if_pos c, num_Print_fit _ hf, Option.bind_some]
    simp only []
    rw [num_Parse_eq 9 (by decide), Option.bind_some, numL_printL _ hf]
    simp
  · rw [if_neg c, if_pos (numL_bad l c)]
    rfl
theorem NumBack_pure (a0 : Int) (a1 : ByteArray) : foolscaplaw01_NumBack.f 10 a0 a1 = some true := by
  rw [← bl_of a1]
  unfold foolscaplaw01_NumBack.f
  rw [NumBack_j0]
  rw [num_Print_all, Option.bind_some]
  by_cases c : fitB a0 = true
  · rw [if_pos c]
    simp only []
    rw [if_pos trivial, num_Parse_eq 10 (by decide), Option.bind_some, numL_printL a0 (of_decide_eq_true c)]
    simp
  · rw [if_neg c]
    simp only []
    rw [if_neg (by decide)]
theorem NumBack_walk (a0 : Int) (a1 : ByteArray) (w : World) (w0 : (Lit.int .i64 a0).wf = true) (w1 : a1.size ≤ 140737488351232) (hL : Aside0 (LaidW w)) :
    Calls Tryd.prog 9 #[.int .i64 a0, .string a1] w fun e w' => e = .returned (.bool true) ∧ Below w.heap.size w w' :=
  foolscaplaw01_NumBack.calls 10 a0 a1 true w (NumBack_pure a0 a1) hL
end Go.Proofs.YtdhieabmpkfdhaaDoor.Pr
