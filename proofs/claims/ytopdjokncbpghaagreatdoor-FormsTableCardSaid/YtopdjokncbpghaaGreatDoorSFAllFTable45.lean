/-
  Lemmas for the law FAllFTable.
-/
import Derived.Test.YtopdjokncbpghaaGreatDoorSFAllFTable43
import Derived.Test.YtopdjokncbpghaaGreatDoorSFAllFTable44
set_option maxHeartbeats 8000000
set_option maxRecDepth 100000
set_option linter.unusedVariables false
set_option linter.unusedSimpArgs false
section
namespace Go.Proofs.YtopdjokncbpghaaGreatDoor.Pr
open Go.RowKit Go.Proofs.YtopdjokncbpghaaGreatDoorW.PrintWords Go.Proofs.YtopdjokncbpghaaGreatDoorW.PrintLast Go.Proofs.YtopdjokncbpghaaGreatDoorW.PrintMore Go.Sort
def all9 : List S24 := (forms_All.f 200).getD []
def ref9 : List S24 := (foolscapref09_All.f 20000).getD []
def eqF (x y : S24) : Bool := (x.f0.data.toList == y.f0.data.toList && x.f1 == y.f1) && (x.f2 == y.f2 && x.f3 == y.f3)
theorem eqF_eq {x y : S24} (h : eqF x y = true) : x = y := by
 unfold eqF at h
 simp only [Bool.and_eq_true, beq_iff_eq] at h
 obtain ⟨⟨h0, h1⟩, h2, h3⟩ := h
 cases x; cases y
 simp only at h0 h1 h2 h3
 subst h1 h2 h3
 congr 1
 exact ByteArray.ext (Array.toList_inj.1 h0)
def insF (x : S24) : List S24 → List S24
 | [] => [x]
 | y :: r => if ltStr y.f0.data.toList x.f0.data.toList = true then y :: insF x r else x :: y :: r
def sortF (l : List S24) : List S24 := l.foldr insF []
theorem insF_perm (x : S24) : ∀ l, (insF x l).Perm (x :: l)
 | [] => List.Perm.refl _
 | y :: r => by
  unfold insF
  by_cases h : ltStr y.f0.data.toList x.f0.data.toList = true
  ·rw [if_pos h]; exact ((insF_perm x r).cons y).trans (List.Perm.swap ..)
  ·rw [if_neg h]
theorem sortF_perm : ∀ l, (sortF l).Perm l
 | [] => List.Perm.refl _
 | x :: r => (insF_perm x (sortF r)).trans ((sortF_perm r).cons x)
def eqL : List S24 → List S24 → Bool
 | [], [] => true
 | x :: r, y :: q => eqF x y && eqL r q
 | _, _ => false
theorem eqL_eq : ∀ l m, eqL l m = true → l = m
 | [], [], _ => rfl
 | x :: r, y :: q, h => by
  rw [eqL, Bool.and_eq_true] at h
  rw [eqF_eq h.1, eqL_eq r q h.2]
def upF : List S24 → Bool
 | [] => true
 | x :: r => r.all (fun y => ltStr x.f0.data.toList y.f0.data.toList) && upF r
theorem lists_ok : (((forms_All.f 200).isSome && (foolscapref09_All.f 20000).isSome) && (eqL (sortF all9) ref9 && (upF ref9 && decide (all9.length = 86)))) = true := by decide +kernel
end Go.Proofs.YtopdjokncbpghaaGreatDoor.Pr
end
