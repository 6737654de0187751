-- Printed by pr.py, a program of this claim's author, out of Lean's own print of the program. Not trusted: Lean checks it.
import Derived.Test.YtdhieabmpkfdhaaDoorProg
import Derived.Below
import Derived.Deep.Draws
import Derived.Deep.AppendLies
import Derived.Maps.AppendAt
import Derived.OwnWalk
import Derived.Laws.BytesArg
import Derived.Laws.MakeOwn
import Derived.Laws.OwnMore
import Derived.Deep.OwnRows
import Derived.Tactics
import Derived.Lib.ConvBytes
import Derived.Laws.Slices
import Derived.WalkKit
import Derived.KernelRfl
import Derived.RowKit3
import Derived.Deep.LoopGhost
import Derived.Deep.QuietTactic
import Derived.BigQuiet
import Derived.WideLaws
import Derived.Deep.DeepCutAuto
import Derived.Deep.CutBlock
import Derived.Deep.RegionHeld3
import Derived.Laws.Rows
import Derived.Lib.AppendStr
import Derived.ArgAppend
import Derived.Laws.IdiomCopy
import Derived.OrdersHeld
import Derived.Laws.BitsLemmas
import Derived.RowKit
import Derived.Test.YtdhieabmpkfdhaaDoorWWords
import Derived.Test.YtdhieabmpkfdhaaDoorWLast
import Derived.Test.YtdhieabmpkfdhaaDoorWTab
import Derived.Test.YtdhieabmpkfdhaaDoorWFour
import Derived.Test.YtdhieabmpkfdhaaDoorWQPut
import Derived.Test.YtdhieabmpkfdhaaDoorWApart
import Derived.Test.YtdhieabmpkfdhaaDoorWArr
import Derived.Test.YtdhieabmpkfdhaaDoorWZeros
import Derived.Test.YtdhieabmpkfdhaaDoorWFoot
import Derived.Test.YtdhieabmpkfdhaaDoorWKept
import Derived.Test.YtdhieabmpkfdhaaDoorWShare
import Derived.Test.YtdhieabmpkfdhaaDoorWN
import Derived.Test.YtdhieabmpkfdhaaDoorWFootNe
import Derived.Test.YtdhieabmpkfdhaaDoorWAt
import Derived.Test.YtdhieabmpkfdhaaDoorWEqStruct
import Derived.Test.YtdhieabmpkfdhaaDoorWRepsOne
import Derived.Test.YtdhieabmpkfdhaaDoorWInv
import Derived.Test.YtdhieabmpkfdhaaDoorWInvWords
import Derived.Test.YtdhieabmpkfdhaaDoorWGuard
import Derived.Test.YtdhieabmpkfdhaaDoorWNEv
import Derived.Test.YtdhieabmpkfdhaaDoorWMore
namespace Go.Proofs.YtdhieabmpkfdhaaDoor.Pr
open Go.RowKit Go.Proofs.YtdhieabmpkfdhaaDoorW.PrintWords Go.Proofs.YtdhieabmpkfdhaaDoorW.PrintLast Go.Proofs.YtdhieabmpkfdhaaDoorW.PrintMore
attribute [local go_sem] max2_int min2_int max_two min_two max_three min_three max_four min_four   -- for this text's walks alone
set_option linter.unusedVariables false
set_option linter.unusedSimpArgs false



def errW : Option Int → Value
  | none => .nilIface
  | some c => .iface 0 (.int .i64 c)
theorem errW_none : errW none = .nilIface := rfl
theorem errW_some (c : Int) : errW (some c) = .iface 0 (.int .i64 c) := rfl

theorem info5 : (Tryd.prog.info? 5).map (fun i => (i.zero, i.size, i.bytes)) = some (some (.int .u8 0), 1, 1) := by kernel_rfl
-- the values' own types

end Go.Proofs.YtdhieabmpkfdhaaDoor.Pr
