/-
  Lemmas for the law RFollowsRBack.
-/
import Derived.Test.YthnldbclbfpojaaGreatDoorSRFollowsRBack38
import Derived.Test.YthnldbclbfpojaaGreatDoorSRFollowsRBack30
import Derived.Test.YthnldbclbfpojaaGreatDoorSRFollowsRBack28
import Derived.Test.YthnldbclbfpojaaGreatDoorSRFollowsRBack18
import Derived.Test.YthnldbclbfpojaaGreatDoorSRFollowsRBack12
import Derived.Test.YthnldbclbfpojaaGreatDoorSRFollowsRBack33
set_option maxHeartbeats 8000000
set_option maxRecDepth 100000
set_option linter.unusedVariables false
set_option linter.unusedSimpArgs false
section
namespace Go.Proofs.YthnldbclbfpojaaGreatDoor.Pr
open Go.RowKit Go.Proofs.YthnldbclbfpojaaGreatDoorW.PrintWords Go.Proofs.YthnldbclbfpojaaGreatDoorW.PrintLast Go.Proofs.YthnldbclbfpojaaGreatDoorW.PrintMore
def rwShift.T6 : Bool × List (List Nat × List Nat) := (true, [([], []), ([], []), ([0, 1], [0, 1]), ([], []), ([2, 3, 2], [2, 3]), ([4, 4, 0, 1, 2, 3, 4], [4]), ([5, 0, 1, 2, 3, 4, 5], [])])
def rwShift.B6 : List Nat := [0, 0, 3, 0, 15, 31, 63]
theorem rwShift.tab6 : rtab .any (opsOf Tryz.f12 6) = rwShift.T6 := by kernel_rfl
theorem rwShift.bits6 : waitsOk rwShift.T6.2 rwShift.B6 = true := by kernel_rfl
theorem slide_way (r k : Int) (n : Nd) : wayS (way1 (slidC r k) (fun c => cellB (slidC r k c))) (way2 (fun a _ => slidC r k a) (fun _ b => slidC r k b) (fun a b => cellB (slidC r k a) && cellB (slidC r k b))) n = slideS r k n := by
 unfold slideS
 have e2 : way2 (fun a _ => slidC r k a) (fun _ b => slidC r k b) (fun a b => cellB (slidC r k a) && cellB (slidC r k b)) = slid2 r k := by
  funext a b
  unfold way2 slid2
  simp only [Bool.and_eq_true]
 rw [e2]
 rfl
theorem shift_no (r k : Int) (n : Nd) (A : Option Addr) (c : Nat) (q : Int) (w : World) (hq : ¬q = 0) (HCk : Aside0 (∀ W, Below w.heap.size w W → Calls Tryz.prog 30 #[nodeV n A c] W fun e w' => e = .returned (.int .i64 q) ∧ Below W.heap.size W w')) :
  Calls Tryz.prog 12 #[nodeV n A c, .int .i64 r, .int .i64 k] w (NodeIntOut zeroN q w) := by
 go_enter Tryz.func12, Tryz.ntmps12
 go_wp2_with (first
  | (go_at_call 30; (with_reducible refine (HCk.out _ (bel2 w _ _)).mono ?_); rintro e w1 ⟨rfl, hb⟩; have HB1 := Aside0.mk (below_step (bel2 w _ _) hb); have D6 := Aside0.mk (blk_below (newBlk2 w (.cells (nodeA n A c) 33) (.cells (nodeA zeroN none 0) 33)) hb); clear hb)
  | ((with_reducible refine gate_store (t := 33) (p := 6) (v := .tmp 13) rfl ?_); refine wpRowSt rfl 33 (.tmp 6) (.tmp 13) rfl (w.heap.size + 1) (nodeA zeroN none 0) rfl rfl 33 _ D6.out (by kernel_rfl) rfl rfl ?_))
 refine bodyPost_ret (results_ct rfl _ _ (w.heap.size + 1) 33 (nodeA zeroN none 0) (0, 0) _ rfl (setRow_heap _ _ _ _ _ _ D6.out) Tryz.underlying33 rfl (by kernel_rfl)) rfl ?_
 exact ⟨none, 0, rfl, kidsF_nil _ _ _ _, rowBelow HB1.out (by omega) _⟩
theorem shift_far (r k : Int) (n : Nd) (A : Option Addr) (c : Nat) (w : World) (b1 b2 : Bool) (hb12 : (b1 || b2) = true) (HCk : Aside0 (∀ W, Below w.heap.size w W → Calls Tryz.prog 30 #[nodeV n A c] W fun e w' => e = .returned (.int .i64 0) ∧ Below W.heap.size W w'))
    (H1 : Aside0 (∀ W, Calls Tryz.prog 31 #[.int .i64 r, .int .i64 1048576] W fun e w' => e = .returned (.bool b1) ∧ Below W.heap.size W w'))
    (H2 : Aside0 (∀ W, Calls Tryz.prog 31 #[.int .i64 k, .int .i64 16384] W fun e w' => e = .returned (.bool b2) ∧ Below W.heap.size W w')) :
    Calls Tryz.prog 12 #[nodeV n A c, .int .i64 r, .int .i64 k] w (NodeIntOut zeroN 2 w) := by
  cases b1 <;> cases b2 <;> first | (exfalso; exact absurd hb12 (by decide)) | skip
  all_goals
    go_enter Tryz.func12, Tryz.ntmps12
    go_wp2_with (first
      | (go_at_call 30; (with_reducible refine (HCk.out _ (bel2 w _ _)).mono ?_); rintro e w1 ⟨rfl, hb⟩; have HB1 := Aside0.mk (below_step (bel2 w _ _) hb); have D6 := Aside0.mk (blk_below (newBlk2 w (.cells (nodeA n A c) 33) (.cells (nodeA zeroN none 0) 33)) hb); clear hb)
      | (go_at_call 31; (with_reducible refine (H1.out _).mono ?_); clear H1; rintro e w2 ⟨rfl, hb⟩; have HB2 := Aside0.mk (below_step HB1.out hb); have E6 := Aside0.mk (blk_below D6.out hb); clear hb)
      | (go_at_call 31; (with_reducible refine (H2.out _).mono ?_); clear H2; rintro e w3 ⟨rfl, hb⟩; have HB3 := Aside0.mk (below_step HB2.out hb); have F6 := Aside0.mk (blk_below E6.out hb); clear hb)
      | ((with_reducible refine gate_store (t := 33) (p := 6) (v := .tmp 21) rfl ?_); refine wpRowSt rfl 33 (.tmp 6) (.tmp 21) rfl (w.heap.size + 1) (nodeA zeroN none 0) rfl rfl 33 _ (by first | exact F6.out | exact E6.out) (by kernel_rfl) rfl rfl ?_))
    first
      | (refine bodyPost_ret (results_ct rfl _ _ (w.heap.size + 1) 33 (nodeA zeroN none 0) (0, 0) _ rfl (setRow_heap _ _ _ _ _ _ F6.out) Tryz.underlying33 rfl (by kernel_rfl)) rfl ?_
         exact ⟨none, 0, rfl, kidsF_nil _ _ _ _, rowBelow HB3.out (by omega) _⟩)
      | (refine bodyPost_ret (results_ct rfl _ _ (w.heap.size + 1) 33 (nodeA zeroN none 0) (0, 0) _ rfl (setRow_heap _ _ _ _ _ _ E6.out) Tryz.underlying33 rfl (by kernel_rfl)) rfl ?_
         exact ⟨none, 0, rfl, kidsF_nil _ _ _ _, rowBelow HB2.out (by omega) _⟩)
theorem shift_yes (r k : Int) (n : Nd) (A : Option Addr) (c : Nat) (w : World) (HCk : Aside0 (∀ W, Below w.heap.size w W → Calls Tryz.prog 30 #[nodeV n A c] W fun e w' => e = .returned (.int .i64 0) ∧ Below W.heap.size W w'))
  (H1 : Aside0 (∀ W, Calls Tryz.prog 31 #[.int .i64 r, .int .i64 1048576] W fun e w' => e = .returned (.bool false) ∧ Below W.heap.size W w'))
  (H2 : Aside0 (∀ W, Calls Tryz.prog 31 #[.int .i64 k, .int .i64 16384] W fun e w' => e = .returned (.bool false) ∧ Below W.heap.size W w'))
  (HW : Aside0 (∀ W0 W : World, Below w.heap.size w W0 → Held2 r k W0.heap.size (W0.heap.size + 1) W → W.heap[W0.heap.size + 3]? = some (.cells #[.func (.func 55) #[] #[ptrV W0.heap.size, ptrV (W0.heap.size + 1)]] 73 (0, 0)) → Below W0.heap.size W0 W →
   Calls Tryz.prog 33 #[wayV1 (ptrV W0.heap.size) (ptrV (W0.heap.size + 1)) (ptrV (W0.heap.size + 3)), nodeV n A c] W (NodeOut (slideS r k n) W))) :
  Calls Tryz.prog 12 #[nodeV n A c, .int .i64 r, .int .i64 k] w (NodeIntOut (slideS r k n) 0 w) := by
 go_enter Tryz.func12, Tryz.ntmps12
 go_wp2_with (first
  | (go_at_call 30; (with_reducible refine (HCk.out _ (bel2 w _ _)).mono ?_); rintro e w1 ⟨rfl, hb⟩; have HB1 := Aside0.mk (below_step (bel2 w _ _) hb); have D6 := Aside0.mk (blk_below (newBlk2 w (.cells (nodeA n A c) 33) (.cells (nodeA zeroN none 0) 33)) hb); have D3 := Aside0.mk (blk_below (blk_alloc (newBlk w (.cells (nodeA n A c) 33)) (.cells (nodeA zeroN none 0) 33)) hb); clear hb)
  | (go_at_call 31; (with_reducible refine (H1.out _).mono ?_); clear H1; rintro e w2 ⟨rfl, hb⟩; have HB2 := Aside0.mk (below_step HB1.out hb); have D6' := Aside0.mk (blk_below D6.out hb); have D3' := Aside0.mk (blk_below D3.out hb); clear hb)
  | (go_at_call 31; (with_reducible refine (H2.out _).mono ?_); clear H2; rintro e w3 ⟨rfl, hb⟩; have HB3 := Aside0.mk (below_step HB2.out hb); have E6 := Aside0.mk (blk_below D6'.out hb); have E3 := Aside0.mk (blk_below D3'.out hb); clear hb))
 refine start_ (n := 7) (S := (fun w' => w'.heap[w.heap.size]? = some (.cells (nodeA n A c) 33 (0, 0)))) (ds := []) (Array.replicate 7 false) (by kernel_rfl) rfl rfl (blk_drew E3.out) (fun hHeld => ?_)
 refine with_tabW rwShift.tab6 rwShift.bits6 (fun HT_ HW_ => ?_)
 refine pz 0 22 HT_ ?_; refine pz 1 23 HT_ ?_
 refine tz 3 25 HT_ HW_ (hr := (by rintro w' s0; have q1 := fun i => blk_cell s0 i; go_simp; with_reducible rfl)) (hS := hHeld) (h := ?_)
 refine oneI 2 (some 24) HT_ rfl rfl (by kernel_rfl) (by decide) (fun K hK => ?_)
 refine goes_ Tryz.func32 (by kernel_rfl) rfl #[.int .i64 r, .int .i64 k] (by (try simp only [List.map_toArray, List.map_cons, List.map_nil]); first | done | rfl) rfl rfl (by first | rfl | ((try simp only [List.map_toArray, List.map_cons, List.map_nil]); first | done | rfl)) ?_
 with_reducible refine (shifting_calls r k _).mono ?_
 rintro e w4 ⟨rfl, hH, hF, hb⟩
 refine ⟨_, rfl, ?_⟩
 have HW4 := Aside0.mk (HW.out _ w4 (below_drew1 HB3.out) hH hF hb)
 have HB4 := Aside0.mk (below_step (below_drew1 HB3.out) hb)
 have F6 := Aside0.mk (blk_below (blk_drew E6.out) hb)
 refine hK.out _ _ (blk_below hHeld hb) (fun hHeld => ?_)
 clear hK K
 refine nz 24 ?_
 refine oneI 4 (some 26) HT_ rfl rfl (by kernel_rfl) (by decide) (fun K hK => ?_)
 refine goes_ Tryz.func33 (by kernel_rfl) rfl #[wayV1 (ptrV w3.drew.heap.size) (ptrV (w3.drew.heap.size + 1)) (ptrV (w3.drew.heap.size + 3)), nodeV n A c] (by (try simp only [List.map_toArray, List.map_cons, List.map_nil]); first | done | rfl) rfl rfl (by first | rfl | ((try simp only [List.map_toArray, List.map_cons, List.map_nil]); first | done | rfl)) ?_
 with_reducible refine (HW4.out).mono ?_
 rintro e w5 ⟨A2, c2, rfl, hFF, hb⟩
 refine ⟨_, rfl, ?_⟩
 have HFF := Aside0.mk hFF
 have HB5 := Aside0.mk (below_step HB4.out hb)
 have G6 := Aside0.mk (blk_below F6.out hb)
 refine hK.out _ _ (blk_below hHeld hb) (fun hHeld => ?_)
 clear hK K
 refine nz 26 ?_
 refine oneI 5 none HT_ rfl rfl (by kernel_rfl) (by decide) (fun K hK => ?_)
 refine skip_ (by rfl) rfl (rowSkip (ty := 33) (x := .tmp 6) (y := .tmp 26) (g := w.heap.size + 1) (cs := nodeA (slideS r k n) A2 c2) rfl rfl rfl G6.out (by kernel_rfl) rfl rfl) ?_
 refine hK.out _ _ (rowOther _ hHeld (by omega)) (fun hHeld => ?_)
 clear hK K
 -- norm_
 refine pz 6 7 HT_ ?_
 refine done_ (done_of HT_.out (by kernel_rfl)) ?_
 go_wp2
 refine bodyPost_ret (results_ct rfl _ _ (w.heap.size + 1) 33 (nodeA (slideS r k n) A2 c2) (0, 0) _ rfl (setRow_heap _ _ _ _ _ _ G6.out) Tryz.underlying33 rfl (by kernel_rfl)) rfl ?_
 exact ⟨A2, c2, rfl, ⟨HFF.out.1, Kd.F_mono (Kd.F_step HFF.out.2 (fun z hz _ => setRow_other _ _ z _ (by have := blk_lt F6.out; omega))) (fun z hz => by have := HB4.out.size; omega)⟩, rowBelow HB5.out (by omega) _⟩
theorem shift_calls (r k : Int) (n : Nd) (A : Option Addr) (c : Nat) (w : World) (hK : KidsC w A c n.f5) (hL0 : Aside0 (LaidW w)) :
  Calls Tryz.prog 12 #[nodeV n A c, .int .i64 r, .int .i64 k] w (NodeIntOut (shiftN r k n) (shiftE r k n) w) := by
 have HCk := Aside0.mk fun (W : World) (h : Below w.heap.size w W) => treeCheck_calls n A c W (hK.below h) (LaidAt hL0 h)
 unfold shiftN shiftE
 by_cases hq : checkI n = 0
 ·rw [if_pos hq, if_pos hq]
  rw [hq] at HCk
  have hf1 := fun W => far_calls r 1048576 W
  have hf2 := fun W => far_calls k 16384 W
  rw [show wrap64 (-1048576) = -1048576 by unfold wrap64; omega] at hf1
  rw [show wrap64 (-16384) = -16384 by unfold wrap64; omega] at hf2
  have hfb : farB r k = ((decide (r < -1048576) || decide (r > 1048576)) || (decide (k < -16384) || decide (k > 16384))) := by unfold farB; simp only [Bool.or_assoc]
  generalize (decide (r < -1048576) || decide (r > 1048576)) = b1 at hf1 hfb
  generalize (decide (k < -16384) || decide (k > 16384)) = b2 at hf2 hfb
  cases hf : farB r k with
  | true =>
   rw [if_pos rfl, if_pos rfl]
   exact shift_far r k n A c w b1 b2 (by rw [← hfb, hf]) HCk ⟨hf1⟩ ⟨hf2⟩
  | false =>
   rw [if_neg (by simp), if_neg (by simp)]
   rw [hf] at hfb
   obtain ⟨rfl, rfl⟩ : b1 = false ∧ b2 = false := by cases b1 <;> cases b2 <;> first | exact ⟨rfl, rfl⟩ | exact absurd hfb (by decide)
   refine shift_yes r k n A c w HCk ⟨hf1⟩ ⟨hf2⟩ ⟨fun W0 W h0 hH hF hb => ?_⟩
   have h := node1_calls (ptrV W0.heap.size) (ptrV (W0.heap.size + 1)) (ptrV (W0.heap.size + 3)) (slidC r k) (fun c => cellB (slidC r k c)) (fun a _ => slidC r k a) (fun _ b => slidC r k b) (fun a b => cellB (slidC r k a) && cellB (slidC r k b)) (szN n + 1) n A c W (Nat.lt_succ_self _) ((hK.below h0).below hb) (leaf_of_check hq)
    (fun x W1 h1 => shifting1_calls x r k _ _ W1 (LaidAt (LaidAt (LaidAt hL0 h0) hb) h1) (hH.below h1))
    (fun x y W1 h1 => shifting2_calls x y r k _ _ _ W1 (LaidAt (LaidAt (LaidAt hL0 h0) hb) h1) (hH.below h1) (blk_below hF h1))
   rwa [slide_way] at h
 ·rw [if_neg hq, if_neg hq]
  exact shift_no r k n A c _ w hq HCk
def rwMove.T7 : Bool × List (List Nat × List Nat) := (true, [([], []), ([0], [0]), ([], []), ([1, 2, 1], [1, 2]), ([3, 3, 0, 1, 2, 3], [3]), ([4, 0, 1, 2, 3, 4], [])])
def rwMove.B7 : List Nat := [0, 1, 0, 7, 15, 31]
theorem rwMove.tab7 : rtab .any (opsOf Tryz.f17 7) = rwMove.T7 := by kernel_rfl
theorem rwMove.bits7 : waitsOk rwMove.T7.2 rwMove.B7 = true := by kernel_rfl
def moveS (a b d : Int) (n : Nd) : Nd := wayS (way1 (movC a b d) (movB a b d)) (way2 (movX a b d) (movY a b d) (fun p q => (movR a b d p q).2.1)) n
def moveN (a b d : Int) (n : Nd) : Nd := if checkI n = 0 then (if edB a b d = true then moveS a b d n else zeroN) else zeroN
def moveE (a b d : Int) (n : Nd) : Int := if checkI n = 0 then (if edB a b d = true then 0 else 2) else checkI n
theorem move_no (a b d : Int) (n : Nd) (A : Option Addr) (c : Nat) (q : Int) (w : World) (hq : ¬q = 0) (HCk : Aside0 (∀ W, Below w.heap.size w W → Calls Tryz.prog 30 #[nodeV n A c] W fun e w' => e = .returned (.int .i64 q) ∧ Below W.heap.size W w')) :
  Calls Tryz.prog 17 #[nodeV n A c, .agg (edA a b d)] w (NodeIntOut zeroN q w) := by
 go_enter Tryz.func17, Tryz.ntmps17
 go_wp2_with (first
  | (go_at_call 30; (with_reducible refine (HCk.out _ (bel3 w _ _ _)).mono ?_); rintro e w1 ⟨rfl, hb⟩; have HB1 := Aside0.mk (below_step (bel3 w _ _ _) hb); have D6 := Aside0.mk (blk_below (newBlk3c w _ _ _) hb); clear hb)
  | ((with_reducible refine gate_store (t := 33) (p := 4) (v := .tmp 12) rfl ?_); refine wpRowSt rfl 33 (.tmp 4) (.tmp 12) rfl (w.heap.size + 2) (nodeA zeroN none 0) rfl rfl 33 _ D6.out (by kernel_rfl) rfl rfl ?_))
 refine bodyPost_ret (results_ct rfl _ _ (w.heap.size + 2) 33 (nodeA zeroN none 0) (0, 0) _ rfl (setRow_heap _ _ _ _ _ _ D6.out) Tryz.underlying33 rfl (by kernel_rfl)) rfl ?_
 exact ⟨none, 0, rfl, kidsF_nil _ _ _ _, rowBelow HB1.out (by omega) _⟩
theorem move_bad (a b d : Int) (n : Nd) (A : Option Addr) (c : Nat) (w : World) (HC : Aside0 (move_Check.f a b d = some 2)) (HCk : Aside0 (∀ W, Below w.heap.size w W → Calls Tryz.prog 30 #[nodeV n A c] W fun e w' => e = .returned (.int .i64 0) ∧ Below W.heap.size W w')) :
  Calls Tryz.prog 17 #[nodeV n A c, .agg (edA a b d)] w (NodeIntOut zeroN 2 w) := by
 go_enter Tryz.func17, Tryz.ntmps17
 go_wp2_with (first
  | (go_at_call 30; (with_reducible refine (HCk.out _ (bel3 w _ _ _)).mono ?_); rintro e w1 ⟨rfl, hb⟩; have HB1 := Aside0.mk (below_step (bel3 w _ _ _) hb); have D4 := Aside0.mk (blk_below (newBlk3b w _ _ _) hb); have D6 := Aside0.mk (blk_below (newBlk3c w _ _ _) hb); clear hb; have hc := fun i => blk_cell D4.out i)
  | (go_at_call 37; (with_reducible refine (move_Check.calls _ _ _ _ _ HC.out).mono ?_); rintro e w2 ⟨rfl, hb⟩; have HB2 := Aside0.mk (below_step HB1.out hb); have E6 := Aside0.mk (blk_below D6.out hb); clear hb hc)
  | ((with_reducible refine gate_store (t := 33) (p := 4) (v := .tmp 18) rfl ?_); refine wpRowSt rfl 33 (.tmp 4) (.tmp 18) rfl (w.heap.size + 2) (nodeA zeroN none 0) rfl rfl 33 _ E6.out (by kernel_rfl) rfl rfl ?_))
 refine bodyPost_ret (results_ct rfl _ _ (w.heap.size + 2) 33 (nodeA zeroN none 0) (0, 0) _ rfl (setRow_heap _ _ _ _ _ _ E6.out) Tryz.underlying33 rfl (by kernel_rfl)) rfl ?_
 exact ⟨none, 0, rfl, kidsF_nil _ _ _ _, rowBelow HB2.out (by omega) _⟩
theorem move_yes (a b d : Int) (n : Nd) (A : Option Addr) (c : Nat) (w : World) (HC : Aside0 (move_Check.f a b d = some 0)) (HCk : Aside0 (∀ W, Below w.heap.size w W → Calls Tryz.prog 30 #[nodeV n A c] W fun e w' => e = .returned (.int .i64 0) ∧ Below W.heap.size W w'))
  (HW : Aside0 (∀ W0 W : World, Below w.heap.size w W0 → W.heap[W0.heap.size]? = some (.cells (edA a b d) 47 (0, 0)) → Below W0.heap.size W0 W → Calls Tryz.prog 33 #[wayV2 (ptrV W0.heap.size), nodeV n A c] W (NodeOut (moveS a b d n) W))) :
  Calls Tryz.prog 17 #[nodeV n A c, .agg (edA a b d)] w (NodeIntOut (moveS a b d n) 0 w) := by
 go_enter Tryz.func17, Tryz.ntmps17
 go_wp2_with (first
  | (go_at_call 30; (with_reducible refine (HCk.out _ (bel3 w _ _ _)).mono ?_); rintro e w1 ⟨rfl, hb⟩; have HB1 := Aside0.mk (below_step (bel3 w _ _ _) hb); have D3 := Aside0.mk (blk_below (newBlk3a w _ _ _) hb); have D4 := Aside0.mk (blk_below (newBlk3b w _ _ _) hb); have D6 := Aside0.mk (blk_below (newBlk3c w _ _ _) hb); clear hb; have hc := fun i => blk_cell D4.out i)
  | (go_at_call 37; (with_reducible refine (move_Check.calls _ _ _ _ _ HC.out).mono ?_); rintro e w2 ⟨rfl, hb⟩; have HB2 := Aside0.mk (below_step HB1.out hb); have E3 := Aside0.mk (blk_below D3.out hb); have E4 := Aside0.mk (blk_below D4.out hb); have E6 := Aside0.mk (blk_below D6.out hb); clear hb hc))
 refine start_ (n := 6) (S := (fun w' => w'.heap[w.heap.size]? = some (.cells (nodeA n A c) 33 (0, 0)) ∧ w'.heap[w.heap.size + 1]? = some (.cells (edA a b d) 47 (0, 0)))) (ds := []) (Array.replicate 6 false) (by kernel_rfl) rfl rfl ⟨blk_drew E3.out, blk_drew E4.out⟩ (fun hHeld => ?_)
 refine with_tabW rwMove.tab7 rwMove.bits7 (fun HT_ HW_ => ?_)
 refine tz 0 20 HT_ HW_ (hr := (by rintro w' s0; have q1 := fun i => blk_cell s0.1 i; have q2 := fun i => blk_cell s0.2 i; go_simp; with_reducible rfl)) (hS := hHeld) (h := ?_)
 refine tz 2 22 HT_ HW_ (hr := (by rintro w' s0; have q1 := fun i => blk_cell s0.1 i; have q2 := fun i => blk_cell s0.2 i; go_simp; with_reducible rfl)) (hS := hHeld) (h := ?_)
 refine oneI 1 (some 21) HT_ rfl rfl (by kernel_rfl) (by decide) (fun K hK => ?_)
 refine goes_ Tryz.func38 (by kernel_rfl) rfl #[.agg (edA a b d)] (by (try simp only [List.map_toArray, List.map_cons, List.map_nil]); first | done | rfl) rfl rfl (by first | rfl | ((try simp only [List.map_toArray, List.map_cons, List.map_nil]); first | done | rfl)) ?_
 with_reducible refine (moving_calls a b d _).mono ?_
 rintro e w4 ⟨rfl, hP, hb⟩
 refine ⟨_, rfl, ?_⟩
 have HW4 := Aside0.mk (HW.out _ w4 (below_drew1 HB2.out) hP hb)
 have HB4 := Aside0.mk (below_step (below_drew1 HB2.out) hb)
 have F6 := Aside0.mk (blk_below (blk_drew E6.out) hb)
 refine hK.out _ _ ⟨blk_below hHeld.1 hb, blk_below hHeld.2 hb⟩ (fun hHeld => ?_)
 clear hK K
 refine nz 21 ?_
 refine oneI 3 (some 23) HT_ rfl rfl (by kernel_rfl) (by decide) (fun K hK => ?_)
 refine goes_ Tryz.func33 (by kernel_rfl) rfl #[wayV2 (ptrV w2.drew.heap.size), nodeV n A c] (by (try simp only [List.map_toArray, List.map_cons, List.map_nil]); first | done | rfl) rfl rfl (by first | rfl | ((try simp only [List.map_toArray, List.map_cons, List.map_nil]); first | done | rfl)) ?_
 with_reducible refine (HW4.out).mono ?_
 rintro e w5 ⟨A2, c2, rfl, hFF, hb⟩
 refine ⟨_, rfl, ?_⟩
 have HFF := Aside0.mk hFF
 have HB5 := Aside0.mk (below_step HB4.out hb)
 have G6 := Aside0.mk (blk_below F6.out hb)
 refine hK.out _ _ ⟨blk_below hHeld.1 hb, blk_below hHeld.2 hb⟩ (fun hHeld => ?_)
 clear hK K
 refine nz 23 ?_
 refine oneI 4 none HT_ rfl rfl (by kernel_rfl) (by decide) (fun K hK => ?_)
 refine skip_ (by rfl) rfl (rowSkip (ty := 33) (x := .tmp 4) (y := .tmp 23) (g := w.heap.size + 2) (cs := nodeA (moveS a b d n) A2 c2) rfl rfl rfl G6.out (by kernel_rfl) rfl rfl) ?_
 refine hK.out _ _ ⟨rowOther _ hHeld.1 (by omega), rowOther _ hHeld.2 (by omega)⟩ (fun hHeld => ?_)
 clear hK K
 -- norm_
 refine pz 5 5 HT_ ?_
 refine done_ (done_of HT_.out (by kernel_rfl)) ?_
 go_wp2
 refine bodyPost_ret (results_ct rfl _ _ (w.heap.size + 2) 33 (nodeA (moveS a b d n) A2 c2) (0, 0) _ rfl (setRow_heap _ _ _ _ _ _ G6.out) Tryz.underlying33 rfl (by kernel_rfl)) rfl ?_
 exact ⟨A2, c2, rfl, ⟨HFF.out.1, Kd.F_mono (Kd.F_step HFF.out.2 (fun z hz _ => setRow_other _ _ z _ (by have := blk_lt F6.out; omega))) (fun z hz => by have := HB4.out.size; omega)⟩, rowBelow HB5.out (by omega) _⟩
theorem move_calls (a b d : Int) (n : Nd) (A : Option Addr) (c : Nat) (w : World) (hK : KidsC w A c n.f5) (hL0 : Aside0 (LaidW w)) :
  Calls Tryz.prog 17 #[nodeV n A c, .agg (edA a b d)] w (NodeIntOut (moveN a b d n) (moveE a b d n) w) := by
 have HCk := Aside0.mk fun (W : World) (h : Below w.heap.size w W) => treeCheck_calls n A c W (hK.below h) (LaidAt hL0 h)
 have hc := moveCheck_B a b d
 unfold moveN moveE
 by_cases hq : checkI n = 0
 ·rw [if_pos hq, if_pos hq]
  rw [hq] at HCk
  cases he : edB a b d with
  | true =>
   rw [he, if_pos rfl] at hc
   rw [if_pos rfl, if_pos rfl]
   refine move_yes a b d n A c w ⟨hc⟩ HCk ⟨fun W0 W h0 hP hb => ?_⟩
   exact node2_calls (ptrV W0.heap.size) (movC a b d) (movB a b d) (movX a b d) (movY a b d) (fun p q => (movR a b d p q).2.1) (szN n + 1) n A c W (Nat.lt_succ_self _) ((hK.below h0).below hb) (leaf_of_check hq)
    (fun x W1 h1 => moving1_calls a b d x _ W1 (blk_below hP h1))
    (fun x y W1 h1 => moving2_calls a b d x y _ W1 (blk_below hP h1))
  | false =>
   rw [he, if_neg (by simp)] at hc
   rw [if_neg (by simp), if_neg (by simp)]
   exact move_bad a b d n A c w ⟨hc⟩ HCk
 ·rw [if_neg hq, if_neg hq]
  exact move_no a b d n A c _ w hq HCk
end Go.Proofs.YthnldbclbfpojaaGreatDoor.Pr
end
