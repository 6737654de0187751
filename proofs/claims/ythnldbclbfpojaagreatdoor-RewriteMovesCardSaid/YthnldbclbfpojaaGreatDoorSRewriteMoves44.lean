/-
  What the law RewriteMoves leans on, out of the texts that were printed and written for this seat: only what its proof mentions (gathered by a program of the author's).
-/
import Derived.Test.YthnldbclbfpojaaGreatDoorSRewriteMoves42
import Derived.Test.YthnldbclbfpojaaGreatDoorSRewriteMoves41
import Derived.Test.YthnldbclbfpojaaGreatDoorSRewriteMoves43
import Derived.Test.YthnldbclbfpojaaGreatDoorSRewriteMoves23
import Derived.Test.YthnldbclbfpojaaGreatDoorSRewriteMoves32
set_option maxHeartbeats 8000000
set_option maxRecDepth 100000
set_option linter.unusedVariables false
set_option linter.unusedSimpArgs false
section
namespace Go.Proofs.YthnldbclbfpojaaGreatDoor.Pr
open Go.RowKit Go.Proofs.YthnldbclbfpojaaGreatDoorW.PrintWords Go.Proofs.YthnldbclbfpojaaGreatDoorW.PrintLast Go.Proofs.YthnldbclbfpojaaGreatDoorW.PrintMore
theorem place_bd {r k : Int} (h : placeB r k = true) : 1 ≤ r ∧ r ≤ 1048576 ∧ 1 ≤ k ∧ k ≤ 16384 := by
 simpa only [placeB, Bool.and_eq_true, decide_eq_true_eq] using h
theorem placeRight_B (t l o r : Int) : foolscapref05_Right.f t l o r = some (rectB t l o r) := by
 unfold foolscapref05_Right.f rectB
 rw [ref_Place_B, ref_Place_B]
 cases placeB t l with
 | false => rfl
 | true =>
  cases placeB o r with
  | false => rfl
  | true =>
   simp only [Option.bind_some, if_true, Bool.true_and]
   by_cases h : t ≤ o
   ·rw [if_pos h, decide_eq_true h, Bool.true_and]
   ·rw [if_neg h, decide_eq_false h, Bool.false_and]
theorem spot_is {a b c r k : Int} (h : edB a b c = true) (hp : placeB r k = true) (W : World) :
  Calls Tryz.prog 100 #[.agg (edA a b c), .agg #[.int .i64 r, .int .i64 k]] W fun e w' => e = .returned (.tuple #[.agg #[.int .i64 (spotS a b c r k).1.1, .int .i64 (spotS a b c r k).1.2], .int .i64 (spotS a b c r k).2.1, .int .i64 (spotS a b c r k).2.2]) ∧ Below W.heap.size W w' := by
 have hb := place_bd hp
 have h1 : Aside0 (foolscapref06_Right.f a b c = some true) := ⟨by rw [right6, h]⟩
 have h2 : Aside0 (foolscapref05_Place.f r k = some true) := ⟨by rw [ref_Place_B, hp]⟩
 have l1 := line6 h hb.1 (by omega) 0
 have l2 := line6 h hb.2.2.1 (by omega) 0
 have hr := rows6 a b c
 unfold spotS
 rw [if_pos ⟨hp, h⟩]
 cases hR : rowsB a with
 | true =>
  rw [hR] at hr
  simp only [if_true]
  by_cases z : stepF a b c r = 0
  ·rw [z, if_pos rfl] at l1
   simp only [if_pos z]
   exact spot6_11 a b c r k _ W h1 h2 ⟨hr⟩ ⟨l1⟩
  ·rw [if_neg z] at l1
   simp only [if_neg z]
   exact spot6_10 a b c r k _ _ W h1 h2 ⟨hr⟩ ⟨l1⟩ z
 | false =>
  rw [hR] at hr
  simp only [Bool.false_eq_true, if_false]
  by_cases z : stepF a b c k = 0
  ·rw [z, if_pos rfl] at l2
   simp only [if_pos z]
   exact spot6_01 a b c r k _ W h1 h2 ⟨hr⟩ ⟨l2⟩
  ·rw [if_neg z] at l2
   simp only [if_neg z]
   exact spot6_00 a b c r k _ _ W h1 h2 ⟨hr⟩ ⟨l2⟩ z
theorem rect_is {a b c t l o r : Int} (h : edB a b c = true) (hr : rectB t l o r = true) (W : World) :
  Calls Tryz.prog 102 #[.agg (edA a b c), .agg #[.int .i64 t, .int .i64 l, .int .i64 o, .int .i64 r]] W fun e w' => e = .returned (.tuple #[.agg #[.int .i64 (rectS a b c t l o r).1.t, .int .i64 (rectS a b c t l o r).1.l, .int .i64 (rectS a b c t l o r).1.o, .int .i64 (rectS a b c t l o r).1.r], .bool (rectS a b c t l o r).2.1, .int .i64 (rectS a b c t l o r).2.2]) ∧ Below W.heap.size W w' := by
 have hb := hr
 simp only [rectB, Bool.and_eq_true, decide_eq_true_eq] at hb
 obtain ⟨g1, g2, g3, g4⟩ := hb
 have p1 := place_bd g1
 have p2 := place_bd g2
 have hm : mostI a = if rowsB a = true then 1048576 else 16384 := rfl
 have h1 : Aside0 (foolscapref06_Right.f a b c = some true) := ⟨by rw [right6, h]⟩
 have h2 : Aside0 (foolscapref05_Right.f t l o r = some true) := ⟨by rw [placeRight_B, hr]⟩
 have hw := rows6 a b c
 unfold rectS
 rw [if_pos ⟨h, hr⟩]
 cases hR : rowsB a with
 | true =>
  rw [hR] at hm hw
  simp only [if_true] at hm ⊢
  have e := ends6 h p1.1 g3 (by omega)
  cases hz : ((leftS a b c t o).1 == 0 && ((leftS a b c t o).2 == 0)) with
  | true =>
   rw [hz, if_pos rfl] at e
   simp only [if_true]
   exact rect6_10 a b c t l o r _ _ W h1 h2 ⟨hw⟩ ⟨e⟩
  | false =>
   rw [hz, if_neg (by simp)] at e
   simp only [Bool.false_eq_true, if_false]
   exact rect6_11 a b c t l o r _ _ W h1 h2 ⟨hw⟩ ⟨e⟩
 | false =>
  rw [hR] at hm hw
  simp only [Bool.false_eq_true, if_false] at hm ⊢
  have e := ends6 h p1.2.2.1 g4 (by omega)
  cases hz : ((leftS a b c l r).1 == 0 && ((leftS a b c l r).2 == 0)) with
  | true =>
   rw [hz, if_pos rfl] at e
   simp only [if_true]
   exact rect6_00 a b c t l o r _ _ W h1 h2 ⟨hw⟩ ⟨e⟩
  | false =>
   rw [hz, if_neg (by simp)] at e
   simp only [Bool.false_eq_true, if_false]
   exact rect6_01 a b c t l o r _ _ W h1 h2 ⟨hw⟩ ⟨e⟩
theorem of_is {a0 a1 b0 b1 : Int} (h1 : placeB a0 a1 = true) (h2 : placeB b0 b1 = true) (W : World) :
  Calls Tryz.prog 101 #[.agg #[.int .i64 a0, .int .i64 a1], .agg #[.int .i64 b0, .int .i64 b1]] W fun e w' => e = .returned (.tuple #[.agg #[.int .i64 (ofS a0 a1 b0 b1).t, .int .i64 (ofS a0 a1 b0 b1).l, .int .i64 (ofS a0 a1 b0 b1).o, .int .i64 (ofS a0 a1 b0 b1).r], .int .i64 0]) ∧ Below W.heap.size W w' := by
 have h := of6 a0 a1 b0 b1 W ⟨by rw [ref_Place_B, h1]⟩ ⟨by rw [ref_Place_B, h2]⟩
 unfold ofS
 rw [if_pos ⟨h1, h2⟩]
 exact h
theorem ofS_rect {a0 a1 b0 b1 : Int} (h1 : placeB a0 a1 = true) (h2 : placeB b0 b1 = true) : rectB (ofS a0 a1 b0 b1).t (ofS a0 a1 b0 b1).l (ofS a0 a1 b0 b1).o (ofS a0 a1 b0 b1).r = true := by
 have p1 := place_bd h1
 have p2 := place_bd h2
 unfold ofS
 rw [if_pos ⟨h1, h2⟩]
 have hmn : ∀ u v : Int, mn u v ≤ u ∧ mn u v ≤ v ∧ (mn u v = u ∨ mn u v = v) := fun u v => by unfold mn; split <;> omega
 have hmx : ∀ u v : Int, u ≤ mx u v ∧ v ≤ mx u v ∧ (mx u v = u ∨ mx u v = v) := fun u v => by unfold mx; split <;> omega
 have q1 := hmn a0 b0
 have q2 := hmn a1 b1
 have q3 := hmx a0 b0
 have q4 := hmx a1 b1
 simp only [rectB, placeB, Bool.and_eq_true, decide_eq_true_eq]
 omega
def spotB (n : Nd) : Bool := if n.f0 = 2 then cellB n.f2 else if n.f0 = 3 then cellB n.f2 && cellB n.f3 else true
theorem moved_is {x y z : Int} (he : edB x y z = true) (n : Nd) (A : Option Addr) (c : Nat) (W : World) (hq : spotB n = true) (hl : leafB n = true) (hk : n.f0 = 2 ∨ n.f0 = 3) :
  Calls Tryz.prog 76 #[nodeV n A c, .agg (edA x y z)] W (NodeOut (moveS x y z n) W) := by
 have hl0 := leaf_nil hl hk
 have hx := wayS_eq (way1 (movC x y z) (movB x y z)) (way2 (movX x y z) (movY x y z) (fun p q => (movR x y z p q).2.1)) n
 rw [hl0] at hx
 obtain ⟨f0, f1, ⟨⟨a0, a1⟩, a2, a3⟩, ⟨⟨b0, b1⟩, b2, b3⟩, f4, l⟩ := n
 simp only at hl0 hk hx
 subst hl0
 unfold moveS
 rw [hx]
 clear hx
 rcases hk with rfl | rfl
 ·have hp : placeB a0 a1 = true := hq
  have hs := fun W => spot_is he hp W
  rw [if_pos rfl]
  unfold way1
  cases hb : movB x y z ⟨⟨a0, a1⟩, a2, a3⟩ with
  | true =>
   rw [if_pos rfl]
   have hz : (spotS x y z a0 a1).2.1 = 0 := by simpa [movB] using hb
   simp only [hz] at hs
   exact moved_cell f1 a0 a1 b0 b1 a2 a3 b2 b3 f4 A c x y z _ _ _ W ⟨hs⟩
  | false =>
   rw [if_neg (by simp)]
   have hz : ¬(spotS x y z a0 a1).2.1 = 0 := by simpa [movB] using hb
   exact moved_cell_lost f1 a0 a1 b0 b1 a2 a3 b2 b3 f4 A c x y z _ _ _ _ W ⟨hs⟩ hz
 ·have hp : placeB a0 a1 = true ∧ placeB b0 b1 = true := by
   have h2 := hq
   unfold spotB at h2
   rw [if_neg (show ¬(3 : Int) = 2 by omega), if_pos rfl, Bool.and_eq_true] at h2
   exact h2
  have ho := fun W => of_is hp.1 hp.2 W
  have hr := fun W => rect_is he (ofS_rect hp.1 hp.2) W
  rw [if_neg (show ¬(3 : Int) = 2 by omega), if_pos rfl]
  cases hb : (movR x y z ⟨⟨a0, a1⟩, a2, a3⟩ ⟨⟨b0, b1⟩, b2, b3⟩).2.1 with
  | true =>
   have e : way2 (movX x y z) (movY x y z) (fun p q => (movR x y z p q).2.1) ⟨⟨a0, a1⟩, a2, a3⟩ ⟨⟨b0, b1⟩, b2, b3⟩ = some (movX x y z ⟨⟨a0, a1⟩, a2, a3⟩ ⟨⟨b0, b1⟩, b2, b3⟩, movY x y z ⟨⟨a0, a1⟩, a2, a3⟩ ⟨⟨b0, b1⟩, b2, b3⟩) := by
    unfold way2
    exact if_pos hb
   rw [e]
   have hb' : (rectS x y z (ofS a0 a1 b0 b1).t (ofS a0 a1 b0 b1).l (ofS a0 a1 b0 b1).o (ofS a0 a1 b0 b1).r).2.1 = true := hb
   simp only [hb'] at hr
   exact moved_range f1 a0 a1 b0 b1 a2 a3 b2 b3 f4 A c x y z _ _ _ _ _ _ _ _ _ _ _ _ _ _ W ⟨ho⟩ ⟨hr⟩ ⟨fun W => ordered_calls _ _ _ _ W⟩ ⟨fun W => ordered_calls _ _ _ _ W⟩
  | false =>
   have e : way2 (movX x y z) (movY x y z) (fun p q => (movR x y z p q).2.1) ⟨⟨a0, a1⟩, a2, a3⟩ ⟨⟨b0, b1⟩, b2, b3⟩ = none := by
    unfold way2
    exact if_neg (by simp [hb])
   rw [e]
   have hb' : (rectS x y z (ofS a0 a1 b0 b1).t (ofS a0 a1 b0 b1).l (ofS a0 a1 b0 b1).o (ofS a0 a1 b0 b1).r).2.1 = false := hb
   simp only [hb'] at hr
   exact moved_range_lost f1 a0 a1 b0 b1 a2 a3 b2 b3 f4 A c x y z _ _ _ _ _ _ _ _ _ _ W ⟨ho⟩ ⟨hr⟩
theorem spot_of_check {n : Nd} (h : checkI n = 0) : allS spotB n = true := by
 have hr := (right_of_check h).1
 unfold rightS at hr
 refine allS_and (C := fun n => plainB n && kindB rV rLN rNM foldB n) (D := fun n => plainB n && kindB rV rLN rNM foldB n) (E := spotB) (fun n h1 _ => ?_) n hr hr
 rw [Bool.and_eq_true] at h1
 have q := h1.2
 unfold spotB
 by_cases e2 : n.f0 = 2
 ·rw [if_pos e2]
  simp only [kindB, e2] at q
  simp at q
  exact q.2
 ·rw [if_neg e2]
  by_cases e3 : n.f0 = 3
  ·rw [if_pos e3, Bool.and_eq_true]
   simp only [kindB, e3] at q
   simp at q
   exact q.2
  ·rw [if_neg e3]
theorem through_is {x y z : Int} {n : Nd} (he : edB x y z = true) (h : checkI n = 0) (A : Option Addr) (c : Nat) (w : World) (hK : KidsC w A c n.f5) :
  Calls Tryz.prog 40 #[nodeV n A c, .agg (edA x y z)] w (NodeOut (moveS x y z n) w) :=
 through_calls x y z spotB (fun n A c W h1 h2 h3 => moved_is he n A c W h1 h2 h3) (szN n + 1) n A c w (Nat.lt_succ_self _) hK (leaf_of_check h) (spot_of_check h)
theorem refMove_no (n : Nd) (x y z : Int) (A : Option Addr) (c : Nat) (q : Int) (hq : ¬q = 0) (w : World) (HCk : Aside0 (∀ W, Below w.heap.size w W → Calls Tryz.prog 15 #[nodeV n A c] W fun e w' => e = .returned (.int .i64 q) ∧ Below W.heap.size W w')) :
  Calls Tryz.prog 19 #[nodeV n A c, .agg (edA x y z)] w (NodeIntOut zeroN q w) := by
 have HB := Aside0.mk (bel3 w (.cells (nodeA n A c) 33) (.cells (edA x y z) 47) (.cells (nodeA zeroN none 0) 33))
 have B2 := Aside0.mk (newBlk3a w (.cells (nodeA n A c) 33) (.cells (edA x y z) 47) (.cells (nodeA zeroN none 0) 33))
 have B3 := Aside0.mk (newBlk3b w (.cells (nodeA n A c) 33) (.cells (edA x y z) 47) (.cells (nodeA zeroN none 0) 33))
 have B4 := Aside0.mk (newBlk3c w (.cells (nodeA n A c) 33) (.cells (edA x y z) 47) (.cells (nodeA zeroN none 0) 33))
 go_enter Tryz.func19, Tryz.ntmps19
 go_wp2_with (first
  | ((with_reducible refine gate_dst (N := 8) rfl ?_); refine wpPartLd 8 rfl rfl 33 (.tmp 2) rfl _ rfl _ (nodeA n A c) [] (B2.out) rfl Tryz.underlying33 rfl (by kernel_rfl) ?_)
  | (go_at_call 15; (with_reducible refine (HCk.out _ (bel3 w _ _ _)).mono ?_); rintro e w1 ⟨rfl, hb⟩; have HB_1 := Aside0.mk (below_step HB.out hb); have n_1 := Aside0.mk (blk_below B2.out hb); have e_1 := Aside0.mk (blk_below B3.out hb); have o_1 := Aside0.mk (blk_below B4.out hb); clear hb HB B2 B3 B4)
  | ((with_reducible refine gate_store (t := 33) (p := 4) (v := .tmp 12) rfl ?_); refine wpRowSt rfl 33 (.tmp 4) (.tmp 12) rfl ((w.heap.size + 2)) (nodeA zeroN none 0) rfl rfl 33 _ (o_1.out) (by kernel_rfl) rfl rfl ?_))
 refine bodyPost_ret (results_ct rfl _ _ (w.heap.size + 2) 33 (nodeA zeroN none 0) (0, 0) _ rfl (setRow_heap _ _ _ _ _ _ o_1.out) Tryz.underlying33 rfl (by kernel_rfl)) rfl ?_
 exact ⟨none, 0, rfl, kidsF_nil _ _ _ _, rowBelow HB_1.out (by omega) _⟩
theorem refMove_bad (n : Nd) (x y z : Int) (A : Option Addr) (c : Nat) (p : Int) (hp : ¬p = 0) (w : World) (HCk : Aside0 (∀ W, Below w.heap.size w W → Calls Tryz.prog 15 #[nodeV n A c] W fun e w' => e = .returned (.int .i64 0) ∧ Below W.heap.size W w')) (HC : Aside0 (foolscapref06_Check.f x y z = some p)) :
  Calls Tryz.prog 19 #[nodeV n A c, .agg (edA x y z)] w (NodeIntOut zeroN p w) := by
 have HB := Aside0.mk (bel3 w (.cells (nodeA n A c) 33) (.cells (edA x y z) 47) (.cells (nodeA zeroN none 0) 33))
 have B2 := Aside0.mk (newBlk3a w (.cells (nodeA n A c) 33) (.cells (edA x y z) 47) (.cells (nodeA zeroN none 0) 33))
 have B3 := Aside0.mk (newBlk3b w (.cells (nodeA n A c) 33) (.cells (edA x y z) 47) (.cells (nodeA zeroN none 0) 33))
 have B4 := Aside0.mk (newBlk3c w (.cells (nodeA n A c) 33) (.cells (edA x y z) 47) (.cells (nodeA zeroN none 0) 33))
 go_enter Tryz.func19, Tryz.ntmps19
 go_wp2_with (first
  | ((with_reducible refine gate_dst (N := 8) rfl ?_); refine wpPartLd 8 rfl rfl 33 (.tmp 2) rfl _ rfl _ (nodeA n A c) [] (B2.out) rfl Tryz.underlying33 rfl (by kernel_rfl) ?_)
  | (go_at_call 15; (with_reducible refine (HCk.out _ (bel3 w _ _ _)).mono ?_); rintro e w1 ⟨rfl, hb⟩; have HB_1 := Aside0.mk (below_step HB.out hb); have n_1 := Aside0.mk (blk_below B2.out hb); have e_1 := Aside0.mk (blk_below B3.out hb); have o_1 := Aside0.mk (blk_below B4.out hb); clear hb HB B2 B3 B4)
  | ((with_reducible refine gate_dst (N := 14) rfl ?_); refine wpPartLd 14 rfl rfl 47 (.tmp 3) rfl _ rfl _ (edA x y z) [] (e_1.out) rfl Tryz.underlying47 rfl (by kernel_rfl) ?_)
  | (go_at_call 39; (with_reducible refine (foolscapref06_Check.calls _ _ _ _ _ HC.out).mono ?_); rintro e w2 ⟨rfl, hb⟩; have HB_2 := Aside0.mk (below_step HB_1.out hb); have n_2 := Aside0.mk (blk_below n_1.out hb); have e_2 := Aside0.mk (blk_below e_1.out hb); have o_2 := Aside0.mk (blk_below o_1.out hb); clear hb HB_1 n_1 e_1 o_1)
  | ((with_reducible refine gate_store (t := 33) (p := 4) (v := .tmp 18) rfl ?_); refine wpRowSt rfl 33 (.tmp 4) (.tmp 18) rfl ((w.heap.size + 2)) (nodeA zeroN none 0) rfl rfl 33 _ (o_2.out) (by kernel_rfl) rfl rfl ?_))
 refine bodyPost_ret (results_ct rfl _ _ (w.heap.size + 2) 33 (nodeA zeroN none 0) (0, 0) _ rfl (setRow_heap _ _ _ _ _ _ o_2.out) Tryz.underlying33 rfl (by kernel_rfl)) rfl ?_
 exact ⟨none, 0, rfl, kidsF_nil _ _ _ _, rowBelow HB_2.out (by omega) _⟩
theorem refMove_go (n : Nd) (x y z : Int) (A : Option Addr) (c : Nat) (m : Nd) (w : World) (HCk : Aside0 (∀ W, Below w.heap.size w W → Calls Tryz.prog 15 #[nodeV n A c] W fun e w' => e = .returned (.int .i64 0) ∧ Below W.heap.size W w')) (HC : Aside0 (foolscapref06_Check.f x y z = some 0)) (HT : Aside0 (∀ W, Below w.heap.size w W → Calls Tryz.prog 40 #[nodeV n A c, .agg (edA x y z)] W (NodeOut m W))) :
  Calls Tryz.prog 19 #[nodeV n A c, .agg (edA x y z)] w (NodeIntOut m 0 w) := by
 have HB := Aside0.mk (bel3 w (.cells (nodeA n A c) 33) (.cells (edA x y z) 47) (.cells (nodeA zeroN none 0) 33))
 have B2 := Aside0.mk (newBlk3a w (.cells (nodeA n A c) 33) (.cells (edA x y z) 47) (.cells (nodeA zeroN none 0) 33))
 have B3 := Aside0.mk (newBlk3b w (.cells (nodeA n A c) 33) (.cells (edA x y z) 47) (.cells (nodeA zeroN none 0) 33))
 have B4 := Aside0.mk (newBlk3c w (.cells (nodeA n A c) 33) (.cells (edA x y z) 47) (.cells (nodeA zeroN none 0) 33))
 go_enter Tryz.func19, Tryz.ntmps19
 go_wp2_with (first
  | ((with_reducible refine gate_dst (N := 8) rfl ?_); refine wpPartLd 8 rfl rfl 33 (.tmp 2) rfl _ rfl _ (nodeA n A c) [] (B2.out) rfl Tryz.underlying33 rfl (by kernel_rfl) ?_)
  | (go_at_call 15; (with_reducible refine (HCk.out _ (bel3 w _ _ _)).mono ?_); rintro e w1 ⟨rfl, hb⟩; have HB_1 := Aside0.mk (below_step HB.out hb); have n_1 := Aside0.mk (blk_below B2.out hb); have e_1 := Aside0.mk (blk_below B3.out hb); have o_1 := Aside0.mk (blk_below B4.out hb); clear hb HB B2 B3 B4)
  | ((with_reducible refine gate_dst (N := 14) rfl ?_); refine wpPartLd 14 rfl rfl 47 (.tmp 3) rfl _ rfl _ (edA x y z) [] (e_1.out) rfl Tryz.underlying47 rfl (by kernel_rfl) ?_)
  | (go_at_call 39; (with_reducible refine (foolscapref06_Check.calls _ _ _ _ _ HC.out).mono ?_); rintro e w2 ⟨rfl, hb⟩; have HB_2 := Aside0.mk (below_step HB_1.out hb); have n_2 := Aside0.mk (blk_below n_1.out hb); have e_2 := Aside0.mk (blk_below e_1.out hb); have o_2 := Aside0.mk (blk_below o_1.out hb); clear hb HB_1 n_1 e_1 o_1)
  | ((with_reducible refine gate_dst (N := 20) rfl ?_); refine wpPartLd 20 rfl rfl 33 (.tmp 2) rfl _ rfl _ (nodeA n A c) [] (n_2.out) rfl Tryz.underlying33 rfl (by kernel_rfl) ?_)
  | ((with_reducible refine gate_dst (N := 21) rfl ?_); refine wpPartLd 21 rfl rfl 47 (.tmp 3) rfl _ rfl _ (edA x y z) [] (e_2.out) rfl Tryz.underlying47 rfl (by kernel_rfl) ?_)
  | (go_at_call 40; (with_reducible refine (HT.out _ HB_2.out).mono ?_); rintro e w3 ⟨A2, c2, rfl, hF, hb⟩; have HB_3 := Aside0.mk (below_step HB_2.out hb); have n_3 := Aside0.mk (blk_below n_2.out hb); have e_3 := Aside0.mk (blk_below e_2.out hb); have o_3 := Aside0.mk (blk_below o_2.out hb); have HF := Aside0.mk hF; have hz := blk_lt o_2.out; have HZ := Aside0.mk hz; clear hF hz; clear hb HB_2 n_2 e_2 o_2)
  | ((with_reducible refine gate_store (t := 33) (p := 4) (v := .tmp 22) rfl ?_); refine wpRowSt rfl 33 (.tmp 4) (.tmp 22) rfl ((w.heap.size + 2)) (nodeA m A2 c2) rfl rfl 33 _ (o_3.out) (by kernel_rfl) rfl rfl ?_))
 refine bodyPost_ret (results_ct rfl _ _ (w.heap.size + 2) 33 (nodeA m A2 c2) (0, 0) _ rfl (setRow_heap _ _ _ _ _ _ o_3.out) Tryz.underlying33 rfl (by kernel_rfl)) rfl ?_
 exact ⟨A2, c2, rfl, ⟨HF.out.1, Kd.F_mono (Kd.F_step HF.out.2 (fun z hz _ => setRow_other _ _ z _ (by have := HZ.out; omega))) (fun z hz => by have := HZ.out; omega)⟩, rowBelow HB_3.out (by omega) _⟩
theorem refMove_calls (n : Nd) (x y z : Int) (A : Option Addr) (c : Nat) (w : World) (hK : KidsC w A c n.f5) :
  Calls Tryz.prog 19 #[nodeV n A c, .agg (edA x y z)] w (NodeIntOut (moveN x y z n) (moveE x y z n) w) := by
 have HCk := fun (W : World) (h : Below w.heap.size w W) => Check_calls n A c W (hK.below h)
 have hc := check6 x y z
 unfold moveN moveE
 by_cases hq : checkI n = 0
 ·rw [if_pos hq, if_pos hq]
  rw [hq] at HCk
  by_cases he : edB x y z = true
  ·rw [if_pos he] at hc
   rw [if_pos he, if_pos he]
   exact refMove_go n x y z A c _ w ⟨HCk⟩ ⟨hc⟩ ⟨fun W h => through_is he hq A c W (hK.below h)⟩
  ·rw [if_neg he] at hc
   rw [if_neg he, if_neg he]
   exact refMove_bad n x y z A c 2 (by omega) w ⟨HCk⟩ ⟨hc⟩
 ·rw [if_neg hq, if_neg hq]
  exact refMove_no n x y z A c _ hq w ⟨HCk⟩
theorem refTouch_no (n m : Nd) (x y z : Int) (A : Option Addr) (c : Nat) (q : Int) (hq : ¬q = 0) (w : World) (HM : Aside0 (∀ W, Below w.heap.size w W → Calls Tryz.prog 19 #[nodeV n A c, .agg (edA x y z)] W (NodeIntOut m q W))) :
  Calls Tryz.prog 21 #[nodeV n A c, .agg (edA x y z)] w fun e w' => e = .returned (.tuple #[.bool false, .int .i64 q]) ∧ Below w.heap.size w w' := by
 have HB := Aside0.mk (bel2 w (.cells (nodeA n A c) 33) (.cells (edA x y z) 47))
 have B2 := Aside0.mk (blk_alloc (newBlk w (.cells (nodeA n A c) 33)) (.cells (edA x y z) 47))
 have B3 := Aside0.mk (newBlk2 w (.cells (nodeA n A c) 33) (.cells (edA x y z) 47))
 go_enter Tryz.func21, Tryz.ntmps21
 go_wp2_with (first
  | ((with_reducible refine gate_dst (N := 9) rfl ?_); refine wpPartLd 9 rfl rfl 33 (.tmp 2) rfl _ rfl _ (nodeA n A c) [] (B2.out) rfl Tryz.underlying33 rfl (by kernel_rfl) ?_)
  | ((with_reducible refine gate_dst (N := 10) rfl ?_); refine wpPartLd 10 rfl rfl 47 (.tmp 3) rfl _ rfl _ (edA x y z) [] (B3.out) rfl Tryz.underlying47 rfl (by kernel_rfl) ?_)
  | (go_at_call 19; (with_reducible refine (HM.out _ (bel2 w _ _)).mono ?_); rintro e w1 ⟨A2, c2, rfl, hF, hb⟩; have HB_1 := Aside0.mk (below_step HB.out hb); have n_1 := Aside0.mk (blk_below B2.out hb); have e_1 := Aside0.mk (blk_below B3.out hb); have HN := Aside0.mk (heldNew hF); clear hF; clear hb HB B2 B3)
  | ((with_reducible refine gate_store (t := 33) (p := 6) (v := .tmp 12) rfl ?_); refine wpRowSt rfl 33 (.tmp 6) (.tmp 12) rfl (w1.heap.size) (nodeA m A2 c2) rfl rfl 33 _ (newBlk w1 _) (by kernel_rfl) rfl rfl ?_; have HB_2 := Aside0.mk (rowBelow (below_alloc HB_1.out (.cells Z16 33)) HB_1.out.size (nodeA m A2 c2)); have n_2 := Aside0.mk (rowNew n_1.out (.cells Z16 33) (nodeA m A2 c2)); have Nn_m := Aside0.mk (Nat.ne_of_lt (blk_lt n_1.out)); have e_2 := Aside0.mk (rowNew e_1.out (.cells Z16 33) (nodeA m A2 c2)); have Ne_m := Aside0.mk (Nat.ne_of_lt (blk_lt e_1.out)); have m_2 := Aside0.mk (setRow_heap _ _ _ (nodeA m A2 c2) _ _ (newBlk w1 (.cells Z16 33))); clear HB_1 n_1 e_1))
 go_ret2
 exact ⟨rfl, HB_2.out⟩
theorem refTouch_yes (n m : Nd) (x y z : Int) (A : Option Addr) (c : Nat) (s : Bool) (w : World) (HKn : Aside0 (KidsC w A c n.f5)) (HM : Aside0 (∀ W, Below w.heap.size w W → Calls Tryz.prog 19 #[nodeV n A c, .agg (edA x y z)] W (NodeIntOut m 0 W))) (HS : Aside0 (∀ W A_ c_ B_ e_, KidsC W A_ c_ n.f5 → KidsC W B_ e_ m.f5 → Calls Tryz.prog 14 #[nodeV n A_ c_, nodeV m B_ e_] W fun e w' => e = .returned (.bool s) ∧ Below W.heap.size W w')) :
  Calls Tryz.prog 21 #[nodeV n A c, .agg (edA x y z)] w fun e w' => e = .returned (.tuple #[.bool (!s), .int .i64 0]) ∧ Below w.heap.size w w' := by
 have HB := Aside0.mk (bel2 w (.cells (nodeA n A c) 33) (.cells (edA x y z) 47))
 have B2 := Aside0.mk (blk_alloc (newBlk w (.cells (nodeA n A c) 33)) (.cells (edA x y z) 47))
 have B3 := Aside0.mk (newBlk2 w (.cells (nodeA n A c) 33) (.cells (edA x y z) 47))
 go_enter Tryz.func21, Tryz.ntmps21
 go_wp2_with (first
  | ((with_reducible refine gate_dst (N := 9) rfl ?_); refine wpPartLd 9 rfl rfl 33 (.tmp 2) rfl _ rfl _ (nodeA n A c) [] (B2.out) rfl Tryz.underlying33 rfl (by kernel_rfl) ?_)
  | ((with_reducible refine gate_dst (N := 10) rfl ?_); refine wpPartLd 10 rfl rfl 47 (.tmp 3) rfl _ rfl _ (edA x y z) [] (B3.out) rfl Tryz.underlying47 rfl (by kernel_rfl) ?_)
  | (go_at_call 19; (with_reducible refine (HM.out _ (bel2 w _ _)).mono ?_); rintro e w1 ⟨A2, c2, rfl, hF, hb⟩; have HB_1 := Aside0.mk (below_step HB.out hb); have n_1 := Aside0.mk (blk_below B2.out hb); have e_1 := Aside0.mk (blk_below B3.out hb); have HN := Aside0.mk (heldNew hF); clear hF; clear hb HB B2 B3)
  | ((with_reducible refine gate_store (t := 33) (p := 6) (v := .tmp 12) rfl ?_); refine wpRowSt rfl 33 (.tmp 6) (.tmp 12) rfl (w1.heap.size) (nodeA m A2 c2) rfl rfl 33 _ (newBlk w1 _) (by kernel_rfl) rfl rfl ?_; have HB_2 := Aside0.mk (rowBelow (below_alloc HB_1.out (.cells Z16 33)) HB_1.out.size (nodeA m A2 c2)); have n_2 := Aside0.mk (rowNew n_1.out (.cells Z16 33) (nodeA m A2 c2)); have Nn_m := Aside0.mk (Nat.ne_of_lt (blk_lt n_1.out)); have e_2 := Aside0.mk (rowNew e_1.out (.cells Z16 33) (nodeA m A2 c2)); have Ne_m := Aside0.mk (Nat.ne_of_lt (blk_lt e_1.out)); have m_2 := Aside0.mk (setRow_heap _ _ _ (nodeA m A2 c2) _ _ (newBlk w1 (.cells Z16 33))); clear HB_1 n_1 e_1)
  | ((with_reducible refine gate_dst (N := 17) rfl ?_); refine wpPartLd 17 rfl rfl 33 (.tmp 2) rfl _ rfl _ (nodeA n A c) [] (n_2.out) rfl Tryz.underlying33 rfl (by kernel_rfl) ?_)
  | ((with_reducible refine gate_dst (N := 18) rfl ?_); refine wpPartLd 18 rfl rfl 33 (.tmp 6) rfl _ rfl _ (nodeA m A2 c2) [] (m_2.out) rfl Tryz.underlying33 rfl (by kernel_rfl) ?_)
  | (go_at_call 14; (with_reducible refine (HS.out _ _ _ _ _ (HKn.out.below HB_2.out) HN.out.now).mono ?_); rintro e w2 ⟨rfl, hb⟩; have HB_3 := Aside0.mk (below_step HB_2.out hb); have n_3 := Aside0.mk (blk_below n_2.out hb); have e_3 := Aside0.mk (blk_below e_2.out hb); have m_3 := Aside0.mk (blk_below m_2.out hb); clear hb HB_2 n_2 e_2 m_2))
 go_ret2
 exact ⟨rfl, HB_3.out⟩
theorem touch_no (n m : Nd) (x y z : Int) (A : Option Addr) (c : Nat) (q : Int) (hq : ¬q = 0) (w : World) (HM : Aside0 (∀ W, Below w.heap.size w W → Calls Tryz.prog 17 #[nodeV n A c, .agg (edA x y z)] W (NodeIntOut m q W))) :
  Calls Tryz.prog 20 #[nodeV n A c, .agg (edA x y z)] w fun e w' => e = .returned (.tuple #[.bool false, .int .i64 q]) ∧ Below w.heap.size w w' := by
 have HB := Aside0.mk (bel2 w (.cells (nodeA n A c) 33) (.cells (edA x y z) 47))
 have B2 := Aside0.mk (blk_alloc (newBlk w (.cells (nodeA n A c) 33)) (.cells (edA x y z) 47))
 have B3 := Aside0.mk (newBlk2 w (.cells (nodeA n A c) 33) (.cells (edA x y z) 47))
 go_enter Tryz.func20, Tryz.ntmps20
 go_wp2_with (first
  | ((with_reducible refine gate_dst (N := 9) rfl ?_); refine wpPartLd 9 rfl rfl 33 (.tmp 2) rfl _ rfl _ (nodeA n A c) [] (B2.out) rfl Tryz.underlying33 rfl (by kernel_rfl) ?_)
  | ((with_reducible refine gate_dst (N := 10) rfl ?_); refine wpPartLd 10 rfl rfl 47 (.tmp 3) rfl _ rfl _ (edA x y z) [] (B3.out) rfl Tryz.underlying47 rfl (by kernel_rfl) ?_)
  | (go_at_call 17; (with_reducible refine (HM.out _ (bel2 w _ _)).mono ?_); rintro e w1 ⟨A2, c2, rfl, hF, hb⟩; have HB_1 := Aside0.mk (below_step HB.out hb); have n_1 := Aside0.mk (blk_below B2.out hb); have e_1 := Aside0.mk (blk_below B3.out hb); have HN := Aside0.mk (heldNew hF); clear hF; clear hb HB B2 B3)
  | ((with_reducible refine gate_store (t := 33) (p := 6) (v := .tmp 12) rfl ?_); refine wpRowSt rfl 33 (.tmp 6) (.tmp 12) rfl (w1.heap.size) (nodeA m A2 c2) rfl rfl 33 _ (newBlk w1 _) (by kernel_rfl) rfl rfl ?_; have HB_2 := Aside0.mk (rowBelow (below_alloc HB_1.out (.cells Z16 33)) HB_1.out.size (nodeA m A2 c2)); have n_2 := Aside0.mk (rowNew n_1.out (.cells Z16 33) (nodeA m A2 c2)); have Nn_m := Aside0.mk (Nat.ne_of_lt (blk_lt n_1.out)); have e_2 := Aside0.mk (rowNew e_1.out (.cells Z16 33) (nodeA m A2 c2)); have Ne_m := Aside0.mk (Nat.ne_of_lt (blk_lt e_1.out)); have m_2 := Aside0.mk (setRow_heap _ _ _ (nodeA m A2 c2) _ _ (newBlk w1 (.cells Z16 33))); clear HB_1 n_1 e_1))
 go_ret2
 exact ⟨rfl, HB_2.out⟩
theorem touch_yes (n m : Nd) (x y z : Int) (A : Option Addr) (c : Nat) (s : Bool) (w : World) (HKn : Aside0 (KidsC w A c n.f5)) (HM : Aside0 (∀ W, Below w.heap.size w W → Calls Tryz.prog 17 #[nodeV n A c, .agg (edA x y z)] W (NodeIntOut m 0 W))) (HS : Aside0 (∀ W A_ c_ B_ e_, KidsC W A_ c_ n.f5 → KidsC W B_ e_ m.f5 → Calls Tryz.prog 41 #[nodeV n A_ c_, nodeV m B_ e_] W fun e w' => e = .returned (.bool s) ∧ Below W.heap.size W w')) :
  Calls Tryz.prog 20 #[nodeV n A c, .agg (edA x y z)] w fun e w' => e = .returned (.tuple #[.bool (!s), .int .i64 0]) ∧ Below w.heap.size w w' := by
 have HB := Aside0.mk (bel2 w (.cells (nodeA n A c) 33) (.cells (edA x y z) 47))
 have B2 := Aside0.mk (blk_alloc (newBlk w (.cells (nodeA n A c) 33)) (.cells (edA x y z) 47))
 have B3 := Aside0.mk (newBlk2 w (.cells (nodeA n A c) 33) (.cells (edA x y z) 47))
 go_enter Tryz.func20, Tryz.ntmps20
 go_wp2_with (first
  | ((with_reducible refine gate_dst (N := 9) rfl ?_); refine wpPartLd 9 rfl rfl 33 (.tmp 2) rfl _ rfl _ (nodeA n A c) [] (B2.out) rfl Tryz.underlying33 rfl (by kernel_rfl) ?_)
  | ((with_reducible refine gate_dst (N := 10) rfl ?_); refine wpPartLd 10 rfl rfl 47 (.tmp 3) rfl _ rfl _ (edA x y z) [] (B3.out) rfl Tryz.underlying47 rfl (by kernel_rfl) ?_)
  | (go_at_call 17; (with_reducible refine (HM.out _ (bel2 w _ _)).mono ?_); rintro e w1 ⟨A2, c2, rfl, hF, hb⟩; have HB_1 := Aside0.mk (below_step HB.out hb); have n_1 := Aside0.mk (blk_below B2.out hb); have e_1 := Aside0.mk (blk_below B3.out hb); have HN := Aside0.mk (heldNew hF); clear hF; clear hb HB B2 B3)
  | ((with_reducible refine gate_store (t := 33) (p := 6) (v := .tmp 12) rfl ?_); refine wpRowSt rfl 33 (.tmp 6) (.tmp 12) rfl (w1.heap.size) (nodeA m A2 c2) rfl rfl 33 _ (newBlk w1 _) (by kernel_rfl) rfl rfl ?_; have HB_2 := Aside0.mk (rowBelow (below_alloc HB_1.out (.cells Z16 33)) HB_1.out.size (nodeA m A2 c2)); have n_2 := Aside0.mk (rowNew n_1.out (.cells Z16 33) (nodeA m A2 c2)); have Nn_m := Aside0.mk (Nat.ne_of_lt (blk_lt n_1.out)); have e_2 := Aside0.mk (rowNew e_1.out (.cells Z16 33) (nodeA m A2 c2)); have Ne_m := Aside0.mk (Nat.ne_of_lt (blk_lt e_1.out)); have m_2 := Aside0.mk (setRow_heap _ _ _ (nodeA m A2 c2) _ _ (newBlk w1 (.cells Z16 33))); clear HB_1 n_1 e_1)
  | ((with_reducible refine gate_dst (N := 17) rfl ?_); refine wpPartLd 17 rfl rfl 33 (.tmp 2) rfl _ rfl _ (nodeA n A c) [] (n_2.out) rfl Tryz.underlying33 rfl (by kernel_rfl) ?_)
  | ((with_reducible refine gate_dst (N := 18) rfl ?_); refine wpPartLd 18 rfl rfl 33 (.tmp 6) rfl _ rfl _ (nodeA m A2 c2) [] (m_2.out) rfl Tryz.underlying33 rfl (by kernel_rfl) ?_)
  | (go_at_call 41; (with_reducible refine (HS.out _ _ _ _ _ (HKn.out.below HB_2.out) HN.out.now).mono ?_); rintro e w2 ⟨rfl, hb⟩; have HB_3 := Aside0.mk (below_step HB_2.out hb); have n_3 := Aside0.mk (blk_below n_2.out hb); have e_3 := Aside0.mk (blk_below e_2.out hb); have m_3 := Aside0.mk (blk_below m_2.out hb); clear hb HB_2 n_2 e_2 m_2))
 go_ret2
 exact ⟨rfl, HB_3.out⟩
theorem moves_deep (n : Nd) (x y z : Int) (A : Option Addr) (c : Nat) (w : World) (HD : Aside0 (∀ W, Below w.heap.size w W → Calls Tryz.prog 9 #[nodeV n A c] W fun e w' => e = .returned (.bool true) ∧ Below W.heap.size W w')) (HL : Aside0 (∀ W, Below w.heap.size w W → Calls Tryz.prog 10 #[] W fun e w' => e = .returned (.bool true) ∧ Below W.heap.size W w')) :
  Calls Tryz.prog 6 #[nodeV n A c, .agg (edA x y z)] w fun e w' => e = .returned (.bool true) ∧ Below w.heap.size w w' := by
 have HB0 := Aside0.mk (bel2 w (.cells (nodeA n A c) 33) (.cells (edA x y z) 47))
 have BX_0 := Aside0.mk (blk_alloc (newBlk w (.cells (nodeA n A c) 33)) (.cells (edA x y z) 47))
 have BY_0 := Aside0.mk (newBlk2 w (.cells (nodeA n A c) 33) (.cells (edA x y z) 47))
 go_enter Tryz.func6, Tryz.ntmps6
 go_wp2_with (first
  | ((with_reducible refine gate_dst (N := 14) rfl ?_); (refine gate_guard (by rfl) ?_; dsimp only); refine wpPartLd 14 rfl rfl 33 (.tmp 2) rfl _ rfl _ (nodeA n A c) [] (BX_0.out) rfl Tryz.underlying33 rfl (by kernel_rfl) ?_)
  | (go_at_call 9; (with_reducible refine (HD.out _ HB0.out).mono ?_); rintro e x1 ⟨rfl, hb⟩; have HB1 := Aside0.mk (below_step HB0.out hb); have BX_1 := Aside0.mk (blk_below BX_0.out hb); have BY_1 := Aside0.mk (blk_below BY_0.out hb); clear hb HB0 BX_0 BY_0)
  | (go_at_call 10; (with_reducible refine (HL.out _ HB1.out).mono ?_); rintro e x2 ⟨rfl, hb⟩; have HB2 := Aside0.mk (below_step HB1.out hb); have BX_2 := Aside0.mk (blk_below BX_1.out hb); have BY_2 := Aside0.mk (blk_below BY_1.out hb); clear hb HB1 BX_1 BY_1))
 go_ret
 exact ⟨rfl, HB2.out⟩
theorem moves_go (n m : Nd) (x y z q : Int) (s : Bool) (A : Option Addr) (c : Nat) (w : World) (HKn : Aside0 (KidsC w A c n.f5)) (HD : Aside0 (∀ W, Below w.heap.size w W → Calls Tryz.prog 9 #[nodeV n A c] W fun e w' => e = .returned (.bool false) ∧ Below W.heap.size W w'))
  (HL : Aside0 (∀ W, Below w.heap.size w W → Calls Tryz.prog 10 #[] W fun e w' => e = .returned (.bool true) ∧ Below W.heap.size W w'))
  (HC : Aside0 (∀ W, Below w.heap.size w W → Calls Tryz.prog 11 #[nodeV n A c] W (NodeOut n W)))
  (HM : Aside0 (∀ W A_ c_, Below w.heap.size w W → KidsC W A_ c_ n.f5 → Calls Tryz.prog 17 #[nodeV n A_ c_, .agg (edA x y z)] W (NodeIntOut m q W)))
  (HR : Aside0 (∀ W A_ c_, Below w.heap.size w W → KidsC W A_ c_ n.f5 → Calls Tryz.prog 19 #[nodeV n A_ c_, .agg (edA x y z)] W (NodeIntOut m q W)))
  (HT : Aside0 (∀ W A_ c_, Below w.heap.size w W → KidsC W A_ c_ n.f5 → Calls Tryz.prog 20 #[nodeV n A_ c_, .agg (edA x y z)] W (fun e w' => e = .returned (.tuple #[.bool s, .int .i64 q]) ∧ Below W.heap.size W w')))
  (HT2 : Aside0 (∀ W A_ c_, Below w.heap.size w W → KidsC W A_ c_ n.f5 → Calls Tryz.prog 21 #[nodeV n A_ c_, .agg (edA x y z)] W (fun e w' => e = .returned (.tuple #[.bool s, .int .i64 q]) ∧ Below W.heap.size W w')))
  (HE1 : Aside0 (∀ W A_ c_ B_ e_, KidsC W A_ c_ m.f5 → KidsC W B_ e_ m.f5 → Calls Tryz.prog 14 #[nodeV m A_ c_, nodeV m B_ e_] W fun e w' => e = .returned (.bool true) ∧ Below W.heap.size W w'))
  (HE2 : Aside0 (∀ W A_ c_ B_ e_, KidsC W A_ c_ n.f5 → KidsC W B_ e_ n.f5 → Calls Tryz.prog 14 #[nodeV n A_ c_, nodeV n B_ e_] W fun e w' => e = .returned (.bool true) ∧ Below W.heap.size W w')) :
  Calls Tryz.prog 6 #[nodeV n A c, .agg (edA x y z)] w fun e w' => e = .returned (.bool true) ∧ Below w.heap.size w w' := by
 have HB0 := Aside0.mk (bel2 w (.cells (nodeA n A c) 33) (.cells (edA x y z) 47))
 have BX_0 := Aside0.mk (blk_alloc (newBlk w (.cells (nodeA n A c) 33)) (.cells (edA x y z) 47))
 have BY_0 := Aside0.mk (newBlk2 w (.cells (nodeA n A c) 33) (.cells (edA x y z) 47))
 go_enter Tryz.func6, Tryz.ntmps6
 go_wp2_with (first
  | ((with_reducible refine gate_dst (N := 14) rfl ?_); (refine gate_guard (by rfl) ?_; dsimp only); refine wpPartLd 14 rfl rfl 33 (.tmp 2) rfl _ rfl _ (nodeA n A c) [] (BX_0.out) rfl Tryz.underlying33 rfl (by kernel_rfl) ?_)
  | (go_at_call 9; (with_reducible refine (HD.out _ HB0.out).mono ?_); rintro e x1 ⟨rfl, hb⟩; have HB1 := Aside0.mk (below_step HB0.out hb); have BX_1 := Aside0.mk (blk_below BX_0.out hb); have BY_1 := Aside0.mk (blk_below BY_0.out hb); clear hb HB0 BX_0 BY_0)
  | ((with_reducible refine gate_dst (N := 17) rfl ?_); (refine gate_guard (by rfl) ?_; dsimp only); refine wpPartLd 17 rfl rfl 33 (.tmp 2) rfl _ rfl _ (nodeA n A c) [] (BX_1.out) rfl Tryz.underlying33 rfl (by kernel_rfl) ?_)
  | (go_at_call 11; (with_reducible refine (HC.out _ HB1.out).mono ?_); rintro e x2 ⟨A5, c5, rfl, hF, hb⟩; have HB2 := Aside0.mk (below_step HB1.out hb); have BX_2 := Aside0.mk (blk_below BX_1.out hb); have BY_2 := Aside0.mk (blk_below BY_1.out hb); have N5 := Aside0.mk (heldNew hF); clear hb hF HB1 BX_1 BY_1)
  | ((with_reducible refine gate_store (t := 33) (p := 5) (v := .tmp 18) rfl ?_); refine wpRowSt rfl 33 (.tmp 5) (.tmp 18) rfl (x2.heap.size) (nodeA n A5 c5) rfl rfl 33 _ (newBlk x2 _) (by kernel_rfl) rfl rfl ?_; have HB3 := Aside0.mk (rowBelow (below_alloc HB2.out (.cells Z16 33)) HB2.out.size (nodeA n A5 c5)); have F5_3 := Aside0.mk N5.out; have BX_3 := Aside0.mk (boxStore BX_2.out (nodeA n A5 c5) (.cells Z16 33)); have BY_3 := Aside0.mk (boxStore BY_2.out (nodeA n A5 c5) (.cells Z16 33)); clear N5 HB2 BX_2 BY_2)
  | ((with_reducible refine gate_dst (N := 20) rfl ?_); (refine gate_guard (by rfl) ?_; dsimp only); refine wpPartLd 20 rfl rfl 33 (.tmp 5) rfl _ rfl _ (nodeA n A5 c5) [] (F5_3.out.1) rfl Tryz.underlying33 rfl (by kernel_rfl) ?_)
  | ((with_reducible refine gate_dst (N := 21) rfl ?_); (refine gate_guard (by rfl) ?_; dsimp only); refine wpPartLd 21 rfl rfl 47 (.tmp 3) rfl _ rfl _ (edA x y z) [] (BY_3.out) rfl Tryz.underlying47 rfl (by kernel_rfl) ?_)
  | (go_at_call 17; (with_reducible refine (HM.out _ _ _ HB3.out F5_3.out.now).mono ?_); rintro e x4 ⟨A6, c6, rfl, hF, hb⟩; have HB4 := Aside0.mk (below_step HB3.out hb); have BX_4 := Aside0.mk (blk_below BX_3.out hb); have BY_4 := Aside0.mk (blk_below BY_3.out hb); have F5_4 := Aside0.mk (F5_3.out.below hb); have N6 := Aside0.mk (heldNew hF); clear hb hF HB3 BX_3 BY_3 F5_3)
  | ((with_reducible refine gate_store (t := 33) (p := 6) (v := .tmp 23) rfl ?_); refine wpRowSt rfl 33 (.tmp 6) (.tmp 23) rfl (x4.heap.size) (nodeA m A6 c6) rfl rfl 33 _ (newBlk x4 _) (by kernel_rfl) rfl rfl ?_; have HB5 := Aside0.mk (rowBelow (below_alloc HB4.out (.cells Z16 33)) HB4.out.size (nodeA m A6 c6)); have F6_5 := Aside0.mk N6.out; have BX_5 := Aside0.mk (boxStore BX_4.out (nodeA m A6 c6) (.cells Z16 33)); have BY_5 := Aside0.mk (boxStore BY_4.out (nodeA m A6 c6) (.cells Z16 33)); have F5_5 := Aside0.mk (F5_4.out.store (nodeA m A6 c6) (.cells Z16 33)); clear N6 HB4 BX_4 BY_4 F5_4)
  | ((with_reducible refine gate_dst (N := 26) rfl ?_); (refine gate_guard (by rfl) ?_; dsimp only); refine wpPartLd 26 rfl rfl 33 (.tmp 2) rfl _ rfl _ (nodeA n A c) [] (BX_5.out) rfl Tryz.underlying33 rfl (by kernel_rfl) ?_)
  | ((with_reducible refine gate_dst (N := 27) rfl ?_); (refine gate_guard (by rfl) ?_; dsimp only); refine wpPartLd 27 rfl rfl 47 (.tmp 3) rfl _ rfl _ (edA x y z) [] (BY_5.out) rfl Tryz.underlying47 rfl (by kernel_rfl) ?_)
  | (go_at_call 19; (with_reducible refine (HR.out _ _ _ HB5.out (HKn.out.below HB5.out)).mono ?_); rintro e x6 ⟨A8, c8, rfl, hF, hb⟩; have HB6 := Aside0.mk (below_step HB5.out hb); have BX_6 := Aside0.mk (blk_below BX_5.out hb); have BY_6 := Aside0.mk (blk_below BY_5.out hb); have F5_6 := Aside0.mk (F5_5.out.below hb); have F6_6 := Aside0.mk (F6_5.out.below hb); have N8 := Aside0.mk (heldNew hF); clear hb hF HB5 BX_5 BY_5 F5_5 F6_5)
  | ((with_reducible refine gate_store (t := 33) (p := 8) (v := .tmp 29) rfl ?_); refine wpRowSt rfl 33 (.tmp 8) (.tmp 29) rfl (x6.heap.size) (nodeA m A8 c8) rfl rfl 33 _ (newBlk x6 _) (by kernel_rfl) rfl rfl ?_; have HB7 := Aside0.mk (rowBelow (below_alloc HB6.out (.cells Z16 33)) HB6.out.size (nodeA m A8 c8)); have F8_7 := Aside0.mk N8.out; have BX_7 := Aside0.mk (boxStore BX_6.out (nodeA m A8 c8) (.cells Z16 33)); have BY_7 := Aside0.mk (boxStore BY_6.out (nodeA m A8 c8) (.cells Z16 33)); have F5_7 := Aside0.mk (F5_6.out.store (nodeA m A8 c8) (.cells Z16 33)); have F6_7 := Aside0.mk (F6_6.out.store (nodeA m A8 c8) (.cells Z16 33)); clear N8 HB6 BX_6 BY_6 F5_6 F6_6)
  | ((with_reducible refine gate_dst (N := 32) rfl ?_); (refine gate_guard (by rfl) ?_; dsimp only); refine wpPartLd 32 rfl rfl 33 (.tmp 5) rfl _ rfl _ (nodeA n A5 c5) [] (F5_7.out.1) rfl Tryz.underlying33 rfl (by kernel_rfl) ?_)
  | ((with_reducible refine gate_dst (N := 33) rfl ?_); (refine gate_guard (by rfl) ?_; dsimp only); refine wpPartLd 33 rfl rfl 47 (.tmp 3) rfl _ rfl _ (edA x y z) [] (BY_7.out) rfl Tryz.underlying47 rfl (by kernel_rfl) ?_)
  | (go_at_call 20; (with_reducible refine (HT.out _ _ _ HB7.out F5_7.out.now).mono ?_); rintro e x8 ⟨rfl, hb⟩; have HB8 := Aside0.mk (below_step HB7.out hb); have BX_8 := Aside0.mk (blk_below BX_7.out hb); have BY_8 := Aside0.mk (blk_below BY_7.out hb); have F5_8 := Aside0.mk (F5_7.out.below hb); have F6_8 := Aside0.mk (F6_7.out.below hb); have F8_8 := Aside0.mk (F8_7.out.below hb); clear hb HB7 BX_7 BY_7 F5_7 F6_7 F8_7)
  | ((with_reducible refine gate_dst (N := 38) rfl ?_); (refine gate_guard (by rfl) ?_; dsimp only); refine wpPartLd 38 rfl rfl 33 (.tmp 2) rfl _ rfl _ (nodeA n A c) [] (BX_8.out) rfl Tryz.underlying33 rfl (by kernel_rfl) ?_)
  | ((with_reducible refine gate_dst (N := 39) rfl ?_); (refine gate_guard (by rfl) ?_; dsimp only); refine wpPartLd 39 rfl rfl 47 (.tmp 3) rfl _ rfl _ (edA x y z) [] (BY_8.out) rfl Tryz.underlying47 rfl (by kernel_rfl) ?_)
  | (go_at_call 21; (with_reducible refine (HT2.out _ _ _ HB8.out (HKn.out.below HB8.out)).mono ?_); rintro e x9 ⟨rfl, hb⟩; have HB9 := Aside0.mk (below_step HB8.out hb); have BX_9 := Aside0.mk (blk_below BX_8.out hb); have BY_9 := Aside0.mk (blk_below BY_8.out hb); have F5_9 := Aside0.mk (F5_8.out.below hb); have F6_9 := Aside0.mk (F6_8.out.below hb); have F8_9 := Aside0.mk (F8_8.out.below hb); clear hb HB8 BX_8 BY_8 F5_8 F6_8 F8_8)
  | ((with_reducible refine gate_dst (N := 43) rfl ?_); (refine gate_guard (by rfl) ?_; dsimp only); refine wpPartLd 43 rfl rfl 33 (.tmp 6) rfl _ rfl _ (nodeA m A6 c6) [] (F6_9.out.1) rfl Tryz.underlying33 rfl (by kernel_rfl) ?_)
  | ((with_reducible refine gate_dst (N := 44) rfl ?_); (refine gate_guard (by rfl) ?_; dsimp only); refine wpPartLd 44 rfl rfl 33 (.tmp 8) rfl _ rfl _ (nodeA m A8 c8) [] (F8_9.out.1) rfl Tryz.underlying33 rfl (by kernel_rfl) ?_)
  | (go_at_call 14; (with_reducible refine (HE1.out _ _ _ _ _ F6_9.out.now F8_9.out.now).mono ?_); rintro e x10 ⟨rfl, hb⟩; have HB10 := Aside0.mk (below_step HB9.out hb); have BX_10 := Aside0.mk (blk_below BX_9.out hb); have BY_10 := Aside0.mk (blk_below BY_9.out hb); have F5_10 := Aside0.mk (F5_9.out.below hb); have F6_10 := Aside0.mk (F6_9.out.below hb); have F8_10 := Aside0.mk (F8_9.out.below hb); clear hb HB9 BX_9 BY_9 F5_9 F6_9 F8_9)
  | ((with_reducible refine gate_dst (N := 62) rfl ?_); (refine gate_guard (by rfl) ?_; dsimp only); refine wpPartLd 62 rfl rfl 33 (.tmp 5) rfl _ rfl _ (nodeA n A5 c5) [] (F5_10.out.1) rfl Tryz.underlying33 rfl (by kernel_rfl) ?_)
  | ((with_reducible refine gate_dst (N := 63) rfl ?_); (refine gate_guard (by rfl) ?_; dsimp only); refine wpPartLd 63 rfl rfl 33 (.tmp 2) rfl _ rfl _ (nodeA n A c) [] (BX_10.out) rfl Tryz.underlying33 rfl (by kernel_rfl) ?_)
  | (go_at_call 14; (with_reducible refine (HE2.out _ _ _ _ _ F5_10.out.now (HKn.out.below HB10.out)).mono ?_); rintro e x11 ⟨rfl, hb⟩; have HB11 := Aside0.mk (below_step HB10.out hb); have BX_11 := Aside0.mk (blk_below BX_10.out hb); have BY_11 := Aside0.mk (blk_below BY_10.out hb); have F5_11 := Aside0.mk (F5_10.out.below hb); have F6_11 := Aside0.mk (F6_10.out.below hb); have F8_11 := Aside0.mk (F8_10.out.below hb); clear hb HB10 BX_10 BY_10 F5_10 F6_10 F8_10)
  | (go_at_call 10; (with_reducible refine (HL.out _ HB11.out).mono ?_); rintro e x12 ⟨rfl, hb⟩; have HB12 := Aside0.mk (below_step HB11.out hb); have BX_12 := Aside0.mk (blk_below BX_11.out hb); have BY_12 := Aside0.mk (blk_below BY_11.out hb); have F5_12 := Aside0.mk (F5_11.out.below hb); have F6_12 := Aside0.mk (F6_11.out.below hb); have F8_12 := Aside0.mk (F8_11.out.below hb); clear hb HB11 BX_11 BY_11 F5_11 F6_11 F8_11))
 go_ret
 exact ⟨rfl, HB12.out⟩
theorem RewriteMoves_node (n : Nd) (x y z : Int) (A : Option Addr) (c : Nat) (w : World) (hK : KidsC w A c n.f5) (hL0 : Aside0 (LaidW w)) :
  Calls Tryz.prog 6 #[nodeV n A c, .agg (edA x y z)] w fun e w' => e = .returned (.bool true) ∧ Below w.heap.size w w' := by
 have HL : Aside0 (∀ W, Below w.heap.size w W → Calls Tryz.prog 10 #[] W fun e w' => e = .returned (.bool true) ∧ Below W.heap.size W w') := ⟨fun W hW => lives_calls W (LaidAt hL0 hW)⟩
 by_cases hd : depthI n = 0
 ·exact moves_deep n x y z A c w ⟨deep_yes hd hK⟩ HL
 have HM : ∀ W A_ c_, Below w.heap.size w W → KidsC W A_ c_ n.f5 → Calls Tryz.prog 17 #[nodeV n A_ c_, .agg (edA x y z)] W (NodeIntOut (moveN x y z n) (moveE x y z n) W) := fun W A_ c_ hW h => move_calls x y z n A_ c_ W h (LaidAt hL0 hW)
 have HR : ∀ W A_ c_, Below w.heap.size w W → KidsC W A_ c_ n.f5 → Calls Tryz.prog 19 #[nodeV n A_ c_, .agg (edA x y z)] W (NodeIntOut (moveN x y z n) (moveE x y z n) W) := fun W A_ c_ hW h => refMove_calls n x y z A_ c_ W h
 have HTs : ∃ s : Bool, (∀ W A_ c_, Below w.heap.size w W → KidsC W A_ c_ n.f5 → Calls Tryz.prog 20 #[nodeV n A_ c_, .agg (edA x y z)] W fun e w' => e = .returned (.tuple #[.bool s, .int .i64 (moveE x y z n)]) ∧ Below W.heap.size W w') ∧
   (∀ W A_ c_, Below w.heap.size w W → KidsC W A_ c_ n.f5 → Calls Tryz.prog 21 #[nodeV n A_ c_, .agg (edA x y z)] W fun e w' => e = .returned (.tuple #[.bool s, .int .i64 (moveE x y z n)]) ∧ Below W.heap.size W w') := by
  by_cases h1 : moveE x y z n = 0
  ·have e1 : moveN x y z n = moveS x y z n := moveN_S h1
   refine ⟨!(sameS n (moveS x y z n)), fun W A_ c_ hW h => ?_, fun W A_ c_ hW h => ?_⟩
   ·rw [h1]
    refine touch_yes n (moveS x y z n) x y z A_ c_ _ W ⟨h⟩ ⟨fun W' hW' => ?_⟩ ⟨fun W' A' c' B' e' ha hb => rsame_calls (way1_fix x y z) (way2_fix x y z) (szN n + 1) n A' B' c' e' W' (Nat.lt_succ_self _) ha hb⟩
    have q := HM W' A_ c_ (below_step hW hW') (h.below hW')
    rwa [h1, e1] at q
   ·rw [h1]
    refine refTouch_yes n (moveS x y z n) x y z A_ c_ _ W ⟨h⟩ ⟨fun W' hW' => ?_⟩ ⟨fun W' A' c' B' e' ha hb => Same_calls (szN n + 1) n _ A' B' c' e' W' (Nat.lt_succ_self _) ha hb⟩
    have q := HR W' A_ c_ (below_step hW hW') (h.below hW')
    rwa [h1, e1] at q
  ·exact ⟨false, fun W A_ c_ hW h => touch_no n _ x y z A_ c_ _ h1 W ⟨fun W' hW' => HM W' A_ c_ (below_step hW hW') (h.below hW')⟩, fun W A_ c_ hW h => refTouch_no n _ x y z A_ c_ _ h1 W ⟨fun W' hW' => HR W' A_ c_ (below_step hW hW') (h.below hW')⟩⟩
 obtain ⟨s, HT, HT2⟩ := HTs
 exact moves_go n (moveN x y z n) x y z (moveE x y z n) s A c w ⟨hK⟩ ⟨deep_no hd hK⟩ HL ⟨fun W hW => copied_calls (szN n + 1) n A c W (Nat.lt_succ_self _) (hK.below hW) (few_of_depth hd)⟩ ⟨HM⟩ ⟨HR⟩ ⟨HT⟩ ⟨HT2⟩
  ⟨fun W A_ c_ B_ e_ h1 h2 => same_self _ W A_ c_ B_ e_ h1 h2⟩ ⟨fun W A_ c_ B_ e_ h1 h2 => same_self _ W A_ c_ B_ e_ h1 h2⟩
theorem RewriteMoves_walk (n : Nd) (A : Option Addr) (c : Nat) (x y z : Int) (w : World) (hK : KidsC w A c n.f5) (hL0 : Aside0 (LaidW w)) :
  Calls Tryz.prog 6 #[nodeV n A c, .agg (edA x y z)] w fun e w' => e = .returned (.bool true) ∧ Below w.heap.size w w' :=
 RewriteMoves_node n x y z A c w hK hL0
end Go.Proofs.YthnldbclbfpojaaGreatDoor.Pr
end
