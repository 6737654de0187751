/-
  Lemmas for the law FormsNamed.
-/
import Derived.Test.YtopdjokncbpghaaGreatDoorSFFindsFChecksFRectsFKids0
import Derived.Test.YtopdjokncbpghaaGreatDoorSFFindsFChecksFRectsFKids1
import Derived.Test.YtopdjokncbpghaaGreatDoorSFFindsFChecksFRectsFKids2
import Derived.Test.YtopdjokncbpghaaGreatDoorSFFindsFChecksFRectsFKids3
import Derived.Test.YtopdjokncbpghaaGreatDoorSFFindsFChecksFRectsFKids4
import Derived.Test.YtopdjokncbpghaaGreatDoorSFFindsFChecksFRectsFKids5
import Derived.Test.YtopdjokncbpghaaGreatDoorSFFindsFChecksFRectsFKids6
import Derived.Test.YtopdjokncbpghaaGreatDoorSFFindsFChecksFRectsFKids7
import Derived.Test.YtopdjokncbpghaaGreatDoorSFFindsFChecksFRectsFKids8
import Derived.Test.YtopdjokncbpghaaGreatDoorSFFindsFChecksFRectsFKids9
import Derived.Test.YtopdjokncbpghaaGreatDoorSFFindsFChecksFRectsFKids10
import Derived.Test.YtopdjokncbpghaaGreatDoorSFFindsFChecksFRectsFKids11
import Derived.Test.YtopdjokncbpghaaGreatDoorSFFindsFChecksFRectsFKids12
import Derived.Test.YtopdjokncbpghaaGreatDoorSFFindsFChecksFRectsFKids13
import Derived.Test.YtopdjokncbpghaaGreatDoorSFFindsFChecksFRectsFKids14
import Derived.Test.YtopdjokncbpghaaGreatDoorSFFindsFChecksFRectsFKids15
import Derived.Test.YtopdjokncbpghaaGreatDoorSFFindsFChecksFRectsFKids16
import Derived.Test.YtopdjokncbpghaaGreatDoorSFFindsFChecksFRectsFKids17
import Derived.Test.YtopdjokncbpghaaGreatDoorSFFindsFChecksFRectsFKids18
import Derived.Test.YtopdjokncbpghaaGreatDoorSFFindsFChecksFRectsFKids19
import Derived.Test.YtopdjokncbpghaaGreatDoorSFFindsFChecksFRectsFKids20
import Derived.Test.YtopdjokncbpghaaGreatDoorSFFindsFChecksFRectsFKids21
import Derived.Test.YtopdjokncbpghaaGreatDoorSFFindsFChecksFRectsFKids22
import Derived.Test.YtopdjokncbpghaaGreatDoorSFFindsFChecksFRectsFKids23
import Derived.Test.YtopdjokncbpghaaGreatDoorSFFindsFChecksFRectsFKids24
import Derived.Test.YtopdjokncbpghaaGreatDoorSFFindsFChecksFRectsFKids25
import Derived.Test.YtopdjokncbpghaaGreatDoorSFFindsFChecksFRectsFKids26
import Derived.Test.YtopdjokncbpghaaGreatDoorSFFindsFChecksFRectsFKids27
import Derived.Test.YtopdjokncbpghaaGreatDoorSFFindsFChecksFRectsFKids28
import Derived.Test.YtopdjokncbpghaaGreatDoorSFFindsFChecksFRectsFKids29
import Derived.Test.YtopdjokncbpghaaGreatDoorSFFindsFChecksFRectsFKids30
import Derived.Test.YtopdjokncbpghaaGreatDoorSFFindsFChecksFRectsFKids31
import Derived.Test.YtopdjokncbpghaaGreatDoorSFFindsFChecksFRectsFKids32
import Derived.Test.YtopdjokncbpghaaGreatDoorSFFindsFChecksFRectsFKids33
import Derived.Test.YtopdjokncbpghaaGreatDoorSFFindsFChecksFRectsFKids34
import Derived.Test.YtopdjokncbpghaaGreatDoorSFFindsFChecksFRectsFKids35
import Derived.Test.YtopdjokncbpghaaGreatDoorSFFindsFChecksFRectsFKids36
import Derived.Test.YtopdjokncbpghaaGreatDoorSFFindsFChecksFRectsFKids37
import Derived.Test.YtopdjokncbpghaaGreatDoorSFFindsFChecksFRectsFKids38
import Derived.Test.YtopdjokncbpghaaGreatDoorSFFindsFChecksFRectsFKids39
import Derived.Test.YtopdjokncbpghaaGreatDoorSFFindsFChecksFRectsFKids40
import Derived.Test.YtopdjokncbpghaaGreatDoorSFFindsFChecksFRectsFKids41
import Derived.Test.YtopdjokncbpghaaGreatDoorSFFindsFChecksFRectsFKids42
import Derived.Test.YtopdjokncbpghaaGreatDoorSFFindsFChecksFRectsFKids43
import Derived.Test.YtopdjokncbpghaaGreatDoorSFFindsFChecksFRectsFKids44
import Derived.Test.YtopdjokncbpghaaGreatDoorSFormsNamed0
import Derived.Test.YtopdjokncbpghaaGreatDoorSFormsNamed1
import Derived.ArgAppend
import Derived.Below
import Derived.BigQuiet
import Derived.BigRegion
import Derived.Deep.AppendLies
import Derived.Deep.CutBlock
import Derived.Deep.DeepCutAuto
import Derived.Deep.Draws
import Derived.Deep.LoopGhost
import Derived.Deep.OwnRows
import Derived.Deep.QuietTactic
import Derived.Deep.RegionHeld3
import Derived.KernelRfl
import Derived.LaidLaws
import Derived.Laws.BitsLemmas
import Derived.Laws.BytesArg
import Derived.Laws.CopyOwn
import Derived.Laws.EntriesVeiled
import Derived.Laws.IdiomCopy
import Derived.Laws.IdiomStrings
import Derived.Laws.MakeOwn
import Derived.Laws.NewBlocks
import Derived.Laws.OwnMore
import Derived.Laws.RangeAny
import Derived.Laws.Rows
import Derived.Laws.Slices
import Derived.Laws.StructEq
import Derived.Laws.Tables
import Derived.Lib.AppendIntMem
import Derived.Lib.AppendStr
import Derived.Lib.ConvBytes
import Derived.Lib.ItoaLen
import Derived.Lib.ItoaNum
import Derived.Lib.LaidTab
import Derived.Lib.LaidU8
import Derived.Lib.Space
import Derived.LoopN
import Derived.LoopTactic
import Derived.Maps.AppendAt
import Derived.OrdersHeld
import Derived.OwnWalk
import Derived.RegionTactic
import Derived.RowKit
import Derived.RowKit3
import Derived.Shelf.LaysM
import Derived.Shelf.Slices.Turned
import Derived.Shelf.Small.Bits
import Derived.Shelf.Small.Strs
import Derived.Shelf.Small.Utf8
import Derived.Shelf.Strconv.Itoa0
import Derived.Shelf.Strconv.Itoa1
import Derived.Shelf.Strconv.Itoa2
import Derived.Shelf.Strconv.Itoa3
import Derived.Shelf.Strings.AsciiSet
import Derived.Shelf.Strings.Fields
import Derived.Shelf.Strings.Runes
import Derived.Shelf.Strings.Search1
import Derived.Shelf.Strings.SlTrimAscii
import Derived.Shelf.Strings.SplitShaped
import Derived.Shelf.Strings.Trim
import Derived.Shelf.Unicode.Decode
import Derived.Shelf.Unicode.DecodeAny
import Derived.Shelf.Unicode.DecodeLast
import Derived.Shelf.Unicode.DecodeSlow
import Derived.Shelf.Unicode.ExclAny
import Derived.Shelf.Unicode.Is16Any
import Derived.Shelf.Unicode.Is16White
import Derived.Shelf.Unicode.Is32Any
import Derived.Shelf.Unicode.IsSpaceAny
import Derived.Shelf.Unicode.Latin
import Derived.Tactics
import Derived.Test.YtopdjokncbpghaaGreatDoorProg
import Derived.WalkKit
import Derived.WideLaws
set_option maxHeartbeats 8000000
set_option maxRecDepth 100000
set_option linter.unusedVariables false
set_option linter.unusedSimpArgs false
section
namespace Go.Proofs.YtopdjokncbpghaaGreatDoor.Pr
open Go.RowKit Go.Proofs.YtopdjokncbpghaaGreatDoorW.PrintWords Go.Proofs.YtopdjokncbpghaaGreatDoorW.PrintLast Go.Proofs.YtopdjokncbpghaaGreatDoorW.PrintMore
def rectB (t l o r : Int) : Bool := placeB t l && (placeB o r && (decide (t ≤ o) && decide (l ≤ r)))
theorem placeCheck_B (t l o r : Int) : place_Check.f t l o r = some (if rectB t l o r = true then 0 else 2) := by
 unfold place_Check.f place_Of.f rectB
 rw [place_is_B, place_is_B]
 cases placeB t l with
 | false => rfl
 | true =>
  cases placeB o r with
  | false => rfl
  | true =>
   by_cases h1 : t ≤ o <;> by_cases h2 : l ≤ r <;> simp [h1, h2, mn, mx] <;> omega
end Go.Proofs.YtopdjokncbpghaaGreatDoor.Pr
end
