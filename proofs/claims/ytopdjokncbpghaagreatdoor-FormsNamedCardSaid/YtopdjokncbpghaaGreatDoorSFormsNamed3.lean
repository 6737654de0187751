/-
  Lemmas for the law FormsNamed.
-/
import Derived.Test.YtopdjokncbpghaaGreatDoorSFFindsFChecksFRectsFKids0
import Derived.Test.YtopdjokncbpghaaGreatDoorSFFindsFChecksFRectsFKids1
import Derived.Test.YtopdjokncbpghaaGreatDoorSFFindsFChecksFRectsFKids2
import Derived.Test.YtopdjokncbpghaaGreatDoorSFFindsFChecksFRectsFKids3
import Derived.Test.YtopdjokncbpghaaGreatDoorSFFindsFChecksFRectsFKids4
import Derived.Test.YtopdjokncbpghaaGreatDoorSFFindsFChecksFRectsFKids5
import Derived.Test.YtopdjokncbpghaaGreatDoorSFFindsFChecksFRectsFKids6
import Derived.Test.YtopdjokncbpghaaGreatDoorSFFindsFChecksFRectsFKids7
import Derived.Test.YtopdjokncbpghaaGreatDoorSFFindsFChecksFRectsFKids8
import Derived.Test.YtopdjokncbpghaaGreatDoorSFFindsFChecksFRectsFKids9
import Derived.Test.YtopdjokncbpghaaGreatDoorSFFindsFChecksFRectsFKids10
import Derived.Test.YtopdjokncbpghaaGreatDoorSFFindsFChecksFRectsFKids11
import Derived.Test.YtopdjokncbpghaaGreatDoorSFFindsFChecksFRectsFKids12
import Derived.Test.YtopdjokncbpghaaGreatDoorSFFindsFChecksFRectsFKids13
import Derived.Test.YtopdjokncbpghaaGreatDoorSFFindsFChecksFRectsFKids14
import Derived.Test.YtopdjokncbpghaaGreatDoorSFFindsFChecksFRectsFKids15
import Derived.Test.YtopdjokncbpghaaGreatDoorSFFindsFChecksFRectsFKids16
import Derived.Test.YtopdjokncbpghaaGreatDoorSFFindsFChecksFRectsFKids17
import Derived.Test.YtopdjokncbpghaaGreatDoorSFFindsFChecksFRectsFKids18
import Derived.Test.YtopdjokncbpghaaGreatDoorSFFindsFChecksFRectsFKids19
import Derived.Test.YtopdjokncbpghaaGreatDoorSFFindsFChecksFRectsFKids20
import Derived.Test.YtopdjokncbpghaaGreatDoorSFFindsFChecksFRectsFKids21
import Derived.Test.YtopdjokncbpghaaGreatDoorSFFindsFChecksFRectsFKids22
import Derived.Test.YtopdjokncbpghaaGreatDoorSFFindsFChecksFRectsFKids23
import Derived.Test.YtopdjokncbpghaaGreatDoorSFFindsFChecksFRectsFKids24
import Derived.Test.YtopdjokncbpghaaGreatDoorSFFindsFChecksFRectsFKids25
import Derived.Test.YtopdjokncbpghaaGreatDoorSFFindsFChecksFRectsFKids26
import Derived.Test.YtopdjokncbpghaaGreatDoorSFFindsFChecksFRectsFKids27
import Derived.Test.YtopdjokncbpghaaGreatDoorSFFindsFChecksFRectsFKids28
import Derived.Test.YtopdjokncbpghaaGreatDoorSFFindsFChecksFRectsFKids29
import Derived.Test.YtopdjokncbpghaaGreatDoorSFFindsFChecksFRectsFKids30
import Derived.Test.YtopdjokncbpghaaGreatDoorSFFindsFChecksFRectsFKids31
import Derived.Test.YtopdjokncbpghaaGreatDoorSFFindsFChecksFRectsFKids32
import Derived.Test.YtopdjokncbpghaaGreatDoorSFFindsFChecksFRectsFKids33
import Derived.Test.YtopdjokncbpghaaGreatDoorSFFindsFChecksFRectsFKids34
import Derived.Test.YtopdjokncbpghaaGreatDoorSFFindsFChecksFRectsFKids35
import Derived.Test.YtopdjokncbpghaaGreatDoorSFFindsFChecksFRectsFKids36
import Derived.Test.YtopdjokncbpghaaGreatDoorSFFindsFChecksFRectsFKids37
import Derived.Test.YtopdjokncbpghaaGreatDoorSFFindsFChecksFRectsFKids38
import Derived.Test.YtopdjokncbpghaaGreatDoorSFFindsFChecksFRectsFKids39
import Derived.Test.YtopdjokncbpghaaGreatDoorSFFindsFChecksFRectsFKids40
import Derived.Test.YtopdjokncbpghaaGreatDoorSFFindsFChecksFRectsFKids41
import Derived.Test.YtopdjokncbpghaaGreatDoorSFFindsFChecksFRectsFKids42
import Derived.Test.YtopdjokncbpghaaGreatDoorSFFindsFChecksFRectsFKids43
import Derived.Test.YtopdjokncbpghaaGreatDoorSFFindsFChecksFRectsFKids44
import Derived.Test.YtopdjokncbpghaaGreatDoorSFormsNamed0
import Derived.Test.YtopdjokncbpghaaGreatDoorSFormsNamed2
import Derived.Test.YtopdjokncbpghaaGreatDoorSFormsNamed1
import Derived.ArgAppend
import Derived.Below
import Derived.BigQuiet
import Derived.BigRegion
import Derived.Deep.AppendLies
import Derived.Deep.CutBlock
import Derived.Deep.DeepCutAuto
import Derived.Deep.Draws
import Derived.Deep.LoopGhost
import Derived.Deep.OwnRows
import Derived.Deep.QuietTactic
import Derived.Deep.RegionHeld3
import Derived.KernelRfl
import Derived.Laws.BitsLemmas
import Derived.Laws.BytesArg
import Derived.Laws.CopyOwn
import Derived.Laws.IdiomCopy
import Derived.Laws.IdiomStrings
import Derived.Laws.MakeOwn
import Derived.Laws.NewBlocks
import Derived.Laws.OwnMore
import Derived.Laws.RangeAny
import Derived.Laws.Rows
import Derived.Laws.Slices
import Derived.Laws.StructEq
import Derived.Laws.Tables
import Derived.Lib.AppendStr
import Derived.Lib.ConvBytes
import Derived.LoopIn
import Derived.LoopNIn
import Derived.LoopTactic
import Derived.Maps.AppendAt
import Derived.Maps.OwnIn
import Derived.OrdersHeld
import Derived.OwnWalk
import Derived.OwnWalkIn
import Derived.RangeFuncBound
import Derived.RangeFuncCalls
import Derived.RangeFuncLeaves
import Derived.RangeFuncNested
import Derived.RegionTactic
import Derived.RowKit
import Derived.RowKit3
import Derived.Shelf.Abstract
import Derived.Shelf.RegionOpen
import Derived.Tactics
import Derived.TacticsInMore
import Derived.Test.YtopdjokncbpghaaGreatDoorProg
import Derived.WalkKit
import Derived.WideLaws
set_option maxHeartbeats 8000000
set_option maxRecDepth 100000
set_option linter.unusedVariables false
set_option linter.unusedSimpArgs false
section
namespace Go.Proofs.YtopdjokncbpghaaGreatDoor.Pr
open Go.RowKit Go.Proofs.YtopdjokncbpghaaGreatDoorW.PrintWords Go.Proofs.YtopdjokncbpghaaGreatDoorW.PrintLast Go.Proofs.YtopdjokncbpghaaGreatDoorW.PrintMore
theorem mem_addS {q : S_R} {out : List S_R} {x : Nd} : q ∈ addS out x ↔ q ∈ out ∨ (rgB x = true ∧ q = rcS x) := by
 unfold addS
 by_cases h : rgB x = true
 ·rw [if_pos h]
  by_cases hm : rcS x ∈ out
  ·rw [if_pos hm]
   exact ⟨.inl, fun h => h.elim id (fun ⟨_, e⟩ => e ▸ hm)⟩
  ·rw [if_neg hm, List.mem_append, List.mem_singleton]
   exact or_congr Iff.rfl ⟨fun e => ⟨h, e⟩, fun e => e.2⟩
 ·rw [if_neg h]
  exact ⟨.inl, fun h' => h'.elim id (fun e => absurd e.1 h)⟩
theorem mem_foldR {q : S_R} : ∀ (l : List Nd) (out : List S_R), q ∈ foldR out l ↔ q ∈ out ∨ ∃ x ∈ l, rgB x = true ∧ q = rcS x
 | [], out => by simp [foldR]
 | x :: r, out => by
  show q ∈ foldR (addS out x) r ↔ _
  rw [mem_foldR r, mem_addS]
  simp only [List.mem_cons, exists_eq_or_imp, or_assoc]
theorem mem_outS {q : S_R} {l : List Nd} : q ∈ outS l ↔ ∃ x ∈ l, rgB x = true ∧ q = rcS x := by
 show q ∈ foldR [] l ↔ _
 rw [mem_foldR]; simp
theorem nodup_addS {out : List S_R} {x : Nd} (h : out.Nodup) : (addS out x).Nodup := by
 unfold addS
 split
 ·split
  ·exact h
  ·rename_i hm
   rw [List.nodup_append]
   exact ⟨h, by simp, fun a ha b hb => by rw [List.mem_singleton] at hb; rintro rfl; exact hm (hb ▸ ha)⟩
 ·exact h
theorem nodup_foldR : ∀ (l : List Nd) (out : List S_R), out.Nodup → (foldR out l).Nodup
 | [], out, h => h
 | x :: r, out, h => nodup_foldR r _ (nodup_addS h)
theorem nodup_outS (l : List Nd) : (outS l).Nodup := nodup_foldR l [] List.nodup_nil
end Go.Proofs.YtopdjokncbpghaaGreatDoor.Pr
end
