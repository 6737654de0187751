/-
  Lemmas for the law RFollowsRBack.
-/
import Derived.Test.YthnldbclbfpojaaGreatDoorSRFollowsRBack50
import Derived.Test.YthnldbclbfpojaaGreatDoorSRFollowsRBack47
set_option maxHeartbeats 8000000
set_option maxRecDepth 100000
set_option linter.unusedVariables false
set_option linter.unusedSimpArgs false
section
namespace Go.Proofs.YthnldbclbfpojaaGreatDoor.Pr
open Go.RowKit Go.Proofs.YthnldbclbfpojaaGreatDoorW.PrintWords Go.Proofs.YthnldbclbfpojaaGreatDoorW.PrintLast Go.Proofs.YthnldbclbfpojaaGreatDoorW.PrintMore
theorem backAny_calls (x y z : Int) : ∃ x2 y2 z2 er, ∀ W, Calls Tryz.prog 25 #[.agg (edA x y z)] W fun e w' => e = .returned (.tuple #[.agg (edA x2 y2 z2), .int .i64 er]) ∧ Below W.heap.size W w' := by
 have hc := moveCheck_B x y z
 cases hq : move_Back.f x y z with
 | none =>
  unfold move_Back.f at hq
  rw [hc] at hq
  simp only [Option.bind_some] at hq
  split at hq <;> cases hq
 | some q => obtain ⟨r1, r2, r3, r4⟩ := q; exact ⟨r1, r2, r3, r4, fun W => move_Back.calls x y z r1 r2 r3 r4 W hq⟩
theorem RewriteBack_node (n : Nd) (x y z : Int) (A : Option Addr) (c : Nat) (w : World) (hK : KidsC w A c n.f5) (hL0 : Aside0 (LaidW w)) :
  Calls Tryz.prog 8 #[nodeV n A c, .agg (edA x y z)] w fun e w' => e = .returned (.bool true) ∧ Below w.heap.size w w' := by
 have HL : Aside0 (∀ W, Below w.heap.size w W → Calls Tryz.prog 10 #[] W fun e w' => e = .returned (.bool true) ∧ Below W.heap.size W w') := ⟨fun W hW => lives_calls W (LaidAt hL0 hW)⟩
 by_cases hd : depthI n = 0
 ·exact back_deep n n x y z A c w ⟨deep_yes hd hK⟩ HL
 have HD := Aside0.mk (deep_no hd hK)
 by_cases hx : x = 1 ∨ x = 3
 ·have HM : ∀ W, Below w.heap.size w W → Calls Tryz.prog 17 #[nodeV n A c, .agg (edA x y z)] W (NodeIntOut (moveN x y z n) (moveE x y z n) W) := fun W hW => move_calls x y z n A c W (hK.below hW) (LaidAt hL0 hW)
  by_cases h1 : moveE x y z n = 0
  ·have hc : checkI n = 0 := by
    unfold moveE at h1
    by_cases q : checkI n = 0
    ·exact q
    ·rw [if_neg q] at h1; exact absurd h1 q
   have he : edB x y z = true := by
    unfold moveE at h1
    rw [if_pos hc] at h1
    by_cases q : edB x y z = true
    ·exact q
    ·rw [if_neg q] at h1; cases h1
   have hi : insB x = true := by unfold insB; rcases hx with rfl | rfl <;> rfl
   have hm := move_check he hc
   have e1 : moveN x y z n = moveS x y z n := moveN_S h1
   rw [h1, e1] at HM
   have n1 := Nat.le_trans (outS_length (preN n)) (pre_few hc)
   have HR : ∀ W, Below w.heap.size w W → Calls Tryz.prog 23 #[nodeV n A c] W fun e w' => (∃ A_ c_, e = .returned (.tuple #[.slice A_ (outS (preN n)).length c_, .int .i64 0]) ∧ (outS (preN n)).length ≤ c_ ∧ Kd.C k64 w' A_ (outS (preN n)).length (outS (preN n))) ∧ Below W.heap.size W w' := fun W hW => by
    refine (rects_ok n A c W (hK.below hW) hc (LaidAt hL0 hW)).mono ?_
    rintro e w' ⟨⟨A2, c2, rfl, hl, hC, _⟩, hb⟩
    exact ⟨⟨A2, c2, rfl, hl, hC⟩, hb⟩
   have HM2 : (∀ v ∈ outS (preN n), ¬stepF x y z (farS x v) = 2) → ∀ W A_ c_, Below w.heap.size w W → KidsC W A_ c_ (moveS x y z n).f5 → Calls Tryz.prog 17 #[nodeV (moveS x y z n) A_ c_, .agg (edA (x + 1) y z)] W (NodeIntOut n 0 W) := fun hv W A_ c_ hW h => by
    have hb := move_back hi he hc (fun v h => (stepF_ins hi).resolve_right (hv v h))
    have q := move_calls (x + 1) y z (moveS x y z n) A_ c_ W h (LaidAt hL0 hW)
    unfold moveN moveE at q
    rw [if_pos hm, if_pos hm, if_pos (back_ed hi he).1, if_pos (back_ed hi he).1, hb] at q
    exact q
   have HSA := fun W A_ c_ B_ e_ (h1 : KidsC W A_ c_ n.f5) (h2 : KidsC W B_ e_ n.f5) => same_self n W A_ c_ B_ e_ h1 h2
   rcases hx with rfl | rfl
   ·exact back_go1 n (moveS 1 y z n) 1 y z A c (1 + 1) y z (outS (preN n)) ⟨n1⟩ rfl rfl w ⟨hK⟩ HD HL ⟨HM⟩ ⟨fun W => back_calls hi he W⟩ ⟨HR⟩ ⟨fun v W hv => clips_calls hi he v (out_right hc v hv) W⟩ ⟨HM2⟩ ⟨HSA⟩
   ·exact back_go3 n (moveS 3 y z n) 3 y z A c (3 + 1) y z (outS (preN n)) ⟨n1⟩ rfl rfl rfl rfl w ⟨hK⟩ HD HL ⟨HM⟩ ⟨fun W => back_calls hi he W⟩ ⟨HR⟩ ⟨fun v W hv => clips_calls hi he v (out_right hc v hv) W⟩ ⟨HM2⟩ ⟨HSA⟩
  ·obtain ⟨x2, y2, z2, er, HK⟩ := backAny_calls x y z
   rcases hx with rfl | rfl
   ·exact back_no1 n _ 1 y z A c _ _ _ _ _ rfl rfl h1 w HD HL ⟨HM⟩ ⟨HK⟩
   ·exact back_no3 n _ 3 y z A c _ _ _ _ _ rfl rfl rfl rfl h1 w HD HL ⟨HM⟩ ⟨HK⟩
 ·have g1 : ¬x = 1 := fun h => hx (.inl h)
  have g3 : ¬x = 3 := fun h => hx (.inr h)
  exact back_kind n n x y z A c (by simpa using g1) (by simpa using g1) (by simpa using g3) (by simpa using g3) w HD HL
theorem RewriteBack_walk (n : Nd) (A : Option Addr) (c : Nat) (x y z : Int) (w : World) (hK : KidsC w A c n.f5) (hL0 : Aside0 (LaidW w)) :
  Calls Tryz.prog 8 #[nodeV n A c, .agg (edA x y z)] w fun e w' => e = .returned (.bool true) ∧ Below w.heap.size w w' :=
 RewriteBack_node n x y z A c w hK hL0
end Go.Proofs.YthnldbclbfpojaaGreatDoor.Pr
end
