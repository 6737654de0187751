/-
  Lemmas for the law FormsNamed.
-/
import Derived.Test.YtopdjokncbpghaaGreatDoorSFFindsFChecksFRectsFKids0
import Derived.Test.YtopdjokncbpghaaGreatDoorSFFindsFChecksFRectsFKids1
import Derived.Test.YtopdjokncbpghaaGreatDoorSFFindsFChecksFRectsFKids2
import Derived.Test.YtopdjokncbpghaaGreatDoorSFFindsFChecksFRectsFKids3
import Derived.Test.YtopdjokncbpghaaGreatDoorSFFindsFChecksFRectsFKids4
import Derived.Test.YtopdjokncbpghaaGreatDoorSFFindsFChecksFRectsFKids5
import Derived.Test.YtopdjokncbpghaaGreatDoorSFFindsFChecksFRectsFKids6
import Derived.Test.YtopdjokncbpghaaGreatDoorSFFindsFChecksFRectsFKids7
import Derived.Test.YtopdjokncbpghaaGreatDoorSFFindsFChecksFRectsFKids8
import Derived.Test.YtopdjokncbpghaaGreatDoorSFFindsFChecksFRectsFKids9
import Derived.Test.YtopdjokncbpghaaGreatDoorSFFindsFChecksFRectsFKids10
import Derived.Test.YtopdjokncbpghaaGreatDoorSFFindsFChecksFRectsFKids11
import Derived.Test.YtopdjokncbpghaaGreatDoorSFFindsFChecksFRectsFKids12
import Derived.Test.YtopdjokncbpghaaGreatDoorSFFindsFChecksFRectsFKids13
import Derived.Test.YtopdjokncbpghaaGreatDoorSFFindsFChecksFRectsFKids14
import Derived.Test.YtopdjokncbpghaaGreatDoorSFFindsFChecksFRectsFKids15
import Derived.Test.YtopdjokncbpghaaGreatDoorSFFindsFChecksFRectsFKids16
import Derived.Test.YtopdjokncbpghaaGreatDoorSFFindsFChecksFRectsFKids17
import Derived.Test.YtopdjokncbpghaaGreatDoorSFFindsFChecksFRectsFKids18
import Derived.Test.YtopdjokncbpghaaGreatDoorSFFindsFChecksFRectsFKids19
import Derived.Test.YtopdjokncbpghaaGreatDoorSFFindsFChecksFRectsFKids20
import Derived.Test.YtopdjokncbpghaaGreatDoorSFFindsFChecksFRectsFKids21
import Derived.Test.YtopdjokncbpghaaGreatDoorSFFindsFChecksFRectsFKids22
import Derived.Test.YtopdjokncbpghaaGreatDoorSFFindsFChecksFRectsFKids23
import Derived.Test.YtopdjokncbpghaaGreatDoorSFFindsFChecksFRectsFKids24
import Derived.Test.YtopdjokncbpghaaGreatDoorSFFindsFChecksFRectsFKids25
import Derived.Test.YtopdjokncbpghaaGreatDoorSFFindsFChecksFRectsFKids26
import Derived.Test.YtopdjokncbpghaaGreatDoorSFFindsFChecksFRectsFKids27
import Derived.Test.YtopdjokncbpghaaGreatDoorSFFindsFChecksFRectsFKids28
import Derived.Test.YtopdjokncbpghaaGreatDoorSFFindsFChecksFRectsFKids29
import Derived.Test.YtopdjokncbpghaaGreatDoorSFFindsFChecksFRectsFKids30
import Derived.Test.YtopdjokncbpghaaGreatDoorSFFindsFChecksFRectsFKids31
import Derived.Test.YtopdjokncbpghaaGreatDoorSFFindsFChecksFRectsFKids32
import Derived.Test.YtopdjokncbpghaaGreatDoorSFFindsFChecksFRectsFKids33
import Derived.Test.YtopdjokncbpghaaGreatDoorSFFindsFChecksFRectsFKids34
import Derived.Test.YtopdjokncbpghaaGreatDoorSFFindsFChecksFRectsFKids35
import Derived.Test.YtopdjokncbpghaaGreatDoorSFFindsFChecksFRectsFKids36
import Derived.Test.YtopdjokncbpghaaGreatDoorSFFindsFChecksFRectsFKids37
import Derived.Test.YtopdjokncbpghaaGreatDoorSFFindsFChecksFRectsFKids38
import Derived.Test.YtopdjokncbpghaaGreatDoorSFFindsFChecksFRectsFKids39
import Derived.Test.YtopdjokncbpghaaGreatDoorSFFindsFChecksFRectsFKids40
import Derived.Test.YtopdjokncbpghaaGreatDoorSFFindsFChecksFRectsFKids41
import Derived.Test.YtopdjokncbpghaaGreatDoorSFFindsFChecksFRectsFKids42
import Derived.Test.YtopdjokncbpghaaGreatDoorSFFindsFChecksFRectsFKids43
import Derived.Test.YtopdjokncbpghaaGreatDoorSFFindsFChecksFRectsFKids44
import Derived.Test.YtopdjokncbpghaaGreatDoorSFormsNamed0
import Derived.ArgAppend
import Derived.Below
import Derived.BigQuiet
import Derived.BigRegion
import Derived.Deep.AppendLies
import Derived.Deep.CutBlock
import Derived.Deep.DeepCutAuto
import Derived.Deep.Draws
import Derived.Deep.LoopGhost
import Derived.Deep.OwnRows
import Derived.Deep.QuietTactic
import Derived.Deep.RegionHeld3
import Derived.KernelRfl
import Derived.Laws.BitsLemmas
import Derived.Laws.BytesArg
import Derived.Laws.CopyOwn
import Derived.Laws.IdiomCopy
import Derived.Laws.IdiomStrings
import Derived.Laws.MakeOwn
import Derived.Laws.NewBlocks
import Derived.Laws.OwnMore
import Derived.Laws.RangeAny
import Derived.Laws.Rows
import Derived.Laws.Slices
import Derived.Laws.StructEq
import Derived.Laws.Tables
import Derived.Lib.AppendStr
import Derived.Lib.ConvBytes
import Derived.LoopTactic
import Derived.Maps.AppendAt
import Derived.OrdersHeld
import Derived.OwnWalk
import Derived.RegionTactic
import Derived.RowKit
import Derived.RowKit3
import Derived.Tactics
import Derived.Test.YtopdjokncbpghaaGreatDoorProg
import Derived.WalkKit
import Derived.WideLaws
set_option maxHeartbeats 8000000
set_option maxRecDepth 100000
set_option linter.unusedVariables false
set_option linter.unusedSimpArgs false
section
namespace Go.Proofs.YtopdjokncbpghaaGreatDoor.Pr
open Go.RowKit Go.Proofs.YtopdjokncbpghaaGreatDoorW.PrintWords Go.Proofs.YtopdjokncbpghaaGreatDoorW.PrintLast Go.Proofs.YtopdjokncbpghaaGreatDoorW.PrintMore
def refSlide.T12 : Bool × List (List Nat × List Nat) := (true, [([], []), ([], []), ([0], []), ([2, 0, 0], [0, 2]), ([0, 1, 2, 3], []), ([4, 1, 3, 0, 1, 2, 3], [1, 4])])
def refSlide.B12 : List Nat := [0, 0, 1, 5, 15, 31]
theorem refSlide.bits12 : waitsOk refSlide.T12.2 refSlide.B12 = true := by kernel_rfl
end Go.Proofs.YtopdjokncbpghaaGreatDoor.Pr
end
