/-
  What the law CritOther leans on, out of the texts that were printed and written for this seat: only what its proof mentions (gathered by a program of the author's).
-/
import Derived.Test.YtngdggmlfoogcaaDoorSCritOther4
import Derived.Test.YtngdggmlfoogcaaDoorSCritOther7
import Derived.Test.YtngdggmlfoogcaaDoorSCritOther5
section
namespace Go.Proofs.YtngdggmlfoogcaaDoor.Pr
open Go.RowKit Go.Proofs.YtngdggmlfoogcaaDoorW.PrintWords Go.Proofs.YtngdggmlfoogcaaDoorW.PrintLast Go.Proofs.YtngdggmlfoogcaaDoorW.PrintMore
attribute [local go_sem] max2_int min2_int max_two min_two max_three min_three max_four min_four   -- for this text's walks alone
set_option linter.unusedVariables false
set_option linter.unusedSimpArgs false
attribute [local go_sem high] eqA28
def value_Alike.T3 : Bool × List (List Nat × List Nat) := (true, [([], []), ([0], [0]), ([1], [1]), ([], []), ([3], [3]), ([4, 2], [4]), ([0, 1, 2], []), ([6, 2, 5, 0, 1, 2], [2, 6]), ([0, 1, 2, 3, 4, 5, 6, 7], []), ([8, 5, 7, 0, 1, 2, 3, 4, 5, 6, 7], [5, 8])])
def value_Alike.B3 : List Nat := [0, 1, 3, 0, 8, 31, 7, 127, 255, 511]
theorem value_Alike.tab3 : rtab .any (opsOf Tryd.f17 3) = value_Alike.T3 := by kernel_rfl
theorem value_Alike.bits3 : waitsOk value_Alike.T3.2 value_Alike.B3 = true := by kernel_rfl
end Go.Proofs.YtngdggmlfoogcaaDoor.Pr
end
