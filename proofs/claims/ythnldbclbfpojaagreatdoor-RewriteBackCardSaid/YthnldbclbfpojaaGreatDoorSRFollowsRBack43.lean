/-
  Lemmas for the law RFollowsRBack.
-/
import Derived.Test.YthnldbclbfpojaaGreatDoorSRFollowsRBack30
import Derived.Test.YthnldbclbfpojaaGreatDoorSRFollowsRBack33
import Derived.Test.YthnldbclbfpojaaGreatDoorSRFollowsRBack40
import Derived.Test.YthnldbclbfpojaaGreatDoorSRFollowsRBack42
import Derived.Test.YthnldbclbfpojaaGreatDoorSRFollowsRBack19
import Derived.Test.YthnldbclbfpojaaGreatDoorSRFollowsRBack5
import Derived.Test.YthnldbclbfpojaaGreatDoorSRFollowsRBack13
import Derived.Test.YthnldbclbfpojaaGreatDoorSRFollowsRBack15
import Derived.Test.YthnldbclbfpojaaGreatDoorSRFollowsRBack18
import Derived.Test.YthnldbclbfpojaaGreatDoorSRFollowsRBack26
import Derived.Test.YthnldbclbfpojaaGreatDoorSRFollowsRBack28
set_option maxHeartbeats 8000000
set_option maxRecDepth 100000
set_option linter.unusedVariables false
set_option linter.unusedSimpArgs false
section
namespace Go.Proofs.YthnldbclbfpojaaGreatDoor.Pr
open Go.RowKit Go.Proofs.YthnldbclbfpojaaGreatDoorW.PrintWords Go.Proofs.YthnldbclbfpojaaGreatDoorW.PrintLast Go.Proofs.YthnldbclbfpojaaGreatDoorW.PrintMore
def through7.T7 : Bool × List (List Nat × List Nat) := (true, [([], []), ([], []), ([1], [1]), ([], []), ([2, 3], [2, 3]), ([4], [4]), ([], []), ([5, 6], [5, 6]), ([7], [7]), ([0, 8, 7], [0, 8]), ([9, 9, 0, 1, 2, 3, 4, 5, 6, 7, 8, 9], [0, 9])])
def through7.B7 : List Nat := [0, 0, 2, 0, 14, 30, 0, 126, 254, 511, 1023]
theorem through7.tab7 : rtab .any (opsOf Tryz.f40 7) = through7.T7 := by kernel_rfl
theorem through7.bits7 : waitsOk through7.T7.2 through7.B7 = true := by kernel_rfl
theorem place_bd {r k : Int} (h : placeB r k = true) : 1 ≤ r ∧ r ≤ 1048576 ∧ 1 ≤ k ∧ k ≤ 16384 := by
 simpa only [placeB, Bool.and_eq_true, decide_eq_true_eq] using h
theorem ofS_rect {a0 a1 b0 b1 : Int} (h1 : placeB a0 a1 = true) (h2 : placeB b0 b1 = true) : rectB (ofS a0 a1 b0 b1).t (ofS a0 a1 b0 b1).l (ofS a0 a1 b0 b1).o (ofS a0 a1 b0 b1).r = true := by
 have p1 := place_bd h1
 have p2 := place_bd h2
 unfold ofS
 rw [if_pos ⟨h1, h2⟩]
 have hmn : ∀ u v : Int, mn u v ≤ u ∧ mn u v ≤ v ∧ (mn u v = u ∨ mn u v = v) := fun u v => by unfold mn; split <;> omega
 have hmx : ∀ u v : Int, u ≤ mx u v ∧ v ≤ mx u v ∧ (mx u v = u ∨ mx u v = v) := fun u v => by unfold mx; split <;> omega
 have q1 := hmn a0 b0
 have q2 := hmn a1 b1
 have q3 := hmx a0 b0
 have q4 := hmx a1 b1
 simp only [rectB, placeB, Bool.and_eq_true, decide_eq_true_eq]
 omega
def spotB (n : Nd) : Bool := if n.f0 = 2 then cellB n.f2 else if n.f0 = 3 then cellB n.f2 && cellB n.f3 else true
theorem spot_of_check {n : Nd} (h : checkI n = 0) : allS spotB n = true := by
 have hr := (right_of_check h).1
 unfold rightS at hr
 refine allS_and (C := fun n => plainB n && kindB rV rLN rNM foldB n) (D := fun n => plainB n && kindB rV rLN rNM foldB n) (E := spotB) (fun n h1 _ => ?_) n hr hr
 rw [Bool.and_eq_true] at h1
 have q := h1.2
 unfold spotB
 by_cases e2 : n.f0 = 2
 ·rw [if_pos e2]
  simp only [kindB, e2] at q
  simp at q
  exact q.2
 ·rw [if_neg e2]
  by_cases e3 : n.f0 = 3
  ·rw [if_pos e3, Bool.and_eq_true]
   simp only [kindB, e3] at q
   simp at q
   exact q.2
  ·rw [if_neg e3]
end Go.Proofs.YthnldbclbfpojaaGreatDoor.Pr
end
