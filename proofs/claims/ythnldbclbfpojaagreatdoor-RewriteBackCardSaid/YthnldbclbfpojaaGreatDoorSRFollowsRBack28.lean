/-
  Lemmas for the law RFollowsRBack.
-/
import Derived.Test.YthnldbclbfpojaaGreatDoorSRFollowsRBack13
import Derived.Test.YthnldbclbfpojaaGreatDoorSRFollowsRBack10
import Derived.Test.YthnldbclbfpojaaGreatDoorSRFollowsRBack11
import Derived.Test.YthnldbclbfpojaaGreatDoorSRFollowsRBack18
import Derived.Test.YthnldbclbfpojaaGreatDoorSRFollowsRBack26
import Derived.Test.YthnldbclbfpojaaGreatDoorSRFollowsRBack24
import Derived.Test.YthnldbclbfpojaaGreatDoorSRFollowsRBack25
set_option maxHeartbeats 8000000
set_option maxRecDepth 100000
set_option linter.unusedVariables false
set_option linter.unusedSimpArgs false
section
namespace Go.Proofs.YthnldbclbfpojaaGreatDoor.Pr
open Go.RowKit Go.Proofs.YthnldbclbfpojaaGreatDoorW.PrintWords Go.Proofs.YthnldbclbfpojaaGreatDoorW.PrintLast Go.Proofs.YthnldbclbfpojaaGreatDoorW.PrintMore
theorem put_at {cs : Array Value} {j : Nat} {u v : Value} (h : cs[j]? = some u) : (cs.setIfInBounds j v)[j]? = some v := by
 have hj : j < cs.size := by
  rcases Nat.lt_or_ge j cs.size with hj | hj
  ·exact hj
  ·rw [Array.getElem?_eq_none hj] at h; cases h
 simp [Array.getElem?_setIfInBounds, hj]
theorem put_same {cs : Array Value} {j : Nat} {v : Value} (h : cs[j]? = some v) : cs.setIfInBounds j v = cs := by
 apply Array.ext_getElem?
 intro i
 rw [Array.getElem?_setIfInBounds]
 by_cases e : j = i
 ·subst e
  rw [if_pos rfl]
  split
  ·exact h.symm
  ·rename_i hn
   rw [Array.getElem?_eq_none (by omega)]
 ·rw [if_neg e]
theorem below_put {w W : World} (h : Below w.heap.size w W) {g j : Nat} {v : Value} {cs : Array Value} {t : TypeId} (H : w.heap[g]? = some (.cells cs t (0, 0))) : Below w.heap.size (w.setCell ⟨g, j, none⟩ v) (W.setCell ⟨g, j, none⟩ v) := by
 have h1 : Below w.heap.size w W := h
 have z1 : (w.setCell ⟨g, j, none⟩ v).heap.size = w.heap.size := by simp
 have z2 : (W.setCell ⟨g, j, none⟩ v).heap.size = W.heap.size := by simp
 have a1 := Below.setCell (Below.refl 0 w) (p := ⟨g, j, none⟩) (Nat.zero_le _) v
 have a2 := Below.setCell (Below.refl 0 W) (p := ⟨g, j, none⟩) (Nat.zero_le _) v
 refine ⟨(a2.os.trans h.os).trans a1.os.symm, (a2.tape.trans h.tape).trans a1.tape.symm, (a2.output.trans h.output).trans a1.output.symm, by rw [z1, z2]; exact h.size, fun k hk => ?_⟩
 by_cases e : k = g
 ·subst e
  exact (blk_put (blk_below H h) j v rfl).trans (blk_put H j v rfl).symm
 ·exact (Below.heap_setCell W ⟨g, j, none⟩ v k e).trans ((h.block k hk).trans (Below.heap_setCell w ⟨g, j, none⟩ v k e).symm)
theorem below_same {w W : World} (h : Below w.heap.size w W) {g j : Nat} {v : Value} {cs : Array Value} {t : TypeId} (H : w.heap[g]? = some (.cells cs t (0, 0))) (hv : cs[j]? = some v) : Below w.heap.size (w.setCell ⟨g, j, none⟩ v) W := by
 have z1 : (w.setCell ⟨g, j, none⟩ v).heap.size = w.heap.size := by simp
 have a1 := Below.setCell (Below.refl 0 w) (p := ⟨g, j, none⟩) (Nat.zero_le _) v
 refine ⟨h.os.trans a1.os.symm, h.tape.trans a1.tape.symm, h.output.trans a1.output.symm, by rw [z1]; exact h.size, fun k hk => ?_⟩
 by_cases e : k = g
 ·subst e
  have := blk_put H j v (cs' := cs.setIfInBounds j v) rfl
  rw [put_same hv] at this
  exact (blk_below H h).trans this.symm
 ·exact (h.block k hk).trans (Below.heap_setCell w ⟨g, j, none⟩ v k e).symm
theorem below_stepP {w W W1 : World} {a : Addr} {v : Value} (h : Below w.heap.size (w.setCell a v) W) (hb : Below W.heap.size W W1) : Below w.heap.size (w.setCell a v) W1 := by
 have z : (w.setCell a v).heap.size = w.heap.size := by simp
 exact h.trans (hb.mono (by have := h.size; rw [z] at this; exact this))
theorem put_below {w W : World} {a : Addr} {v : Value} (h : Below w.heap.size (w.setCell a v) W) : Below (w.setCell a v).heap.size (w.setCell a v) W := by
 have z : (w.setCell a v).heap.size = w.heap.size := by simp
 rwa [z]
def moveStep.T4 : Bool × List (List Nat × List Nat) := (true, [([], []), ([0], [0]), ([1], [1]), ([], []), ([3], [3]), ([2, 4], [2, 4]), ([5], [5])])
def moveStep.B4 : List Nat := [0, 1, 3, 0, 8, 31, 63]
theorem moveStep.tab4 : rtab .any (opsOf Tryz.f44 4) = moveStep.T4 := by kernel_rfl
theorem moveStep.bits4 : waitsOk moveStep.T4.2 moveStep.B4 = true := by kernel_rfl
def moveStep.T6 : Bool × List (List Nat × List Nat) := (true, [([], []), ([0], [0]), ([1], [1]), ([], []), ([3], [3]), ([2, 4], [2, 4]), ([0, 0, 1, 2, 3, 4, 5], [0]), ([6, 5, 0, 1, 2, 3, 4, 5], [5, 6])])
def moveStep.B6 : List Nat := [0, 1, 3, 0, 8, 31, 63, 127]
theorem moveStep.tab6 : rtab .any (opsOf Tryz.f44 6) = moveStep.T6 := by kernel_rfl
theorem moveStep.bits6 : waitsOk moveStep.T6.2 moveStep.B6 = true := by kernel_rfl
def moveStep.T7 : Bool × List (List Nat × List Nat) := (true, [([], []), ([0], [0]), ([1], [1]), ([], []), ([3], [3]), ([2, 4], [2, 4])])
def moveStep.B7 : List Nat := [0, 1, 3, 0, 8, 31]
theorem moveStep.tab7 : rtab .any (opsOf Tryz.f44 7) = moveStep.T7 := by kernel_rfl
theorem moveStep.bits7 : waitsOk moveStep.T7.2 moveStep.B7 = true := by kernel_rfl
def moveStep.T1 : Bool × List (List Nat × List Nat) := (true, [([], []), ([0], [0]), ([1], [1]), ([], []), ([3], [3]), ([2, 4], [2, 4]), ([0, 0, 1, 2, 3, 4, 5], [0]), ([6, 5, 0, 1, 2, 3, 4, 5], [5, 6])])
def moveStep.B1 : List Nat := [0, 1, 3, 0, 8, 31, 63, 127]
theorem moveStep.tab1 : rtab .any (opsOf Tryz.f44 1) = moveStep.T1 := by kernel_rfl
theorem moveStep.bits1 : waitsOk moveStep.T1.2 moveStep.B1 = true := by kernel_rfl
def moveStep.T2 : Bool × List (List Nat × List Nat) := (true, [([], []), ([0], [0]), ([1], [1]), ([], []), ([3], [3]), ([2, 4], [2, 4])])
def moveStep.B2 : List Nat := [0, 1, 3, 0, 8, 31]
theorem moveStep.tab2 : rtab .any (opsOf Tryz.f44 2) = moveStep.T2 := by kernel_rfl
theorem moveStep.bits2 : waitsOk moveStep.T2.2 moveStep.B2 = true := by kernel_rfl
abbrev edA (e0 e1 e2 : Int) : Array Value := #[.int .i64 e0, .int .i64 e1, .int .i64 e2]
theorem step_stays (e0 e1 e2 n : Int) (g j : Nat) (cs : Array Value) (t : TypeId) (w : World) (HG : Aside0 (w.heap[g]? = some (.cells cs t (0, 0)))) (HJ : Aside0 (cs[j]? = some (.int .i64 n))) (h : n < e1) :
  Calls Tryz.prog 44 #[.agg (edA e0 e1 e2), .pointer (some ⟨g, j, none⟩)] w fun e w' => e = .returned (.int .i64 0) ∧ Below w.heap.size (w.setCell ⟨g, j, none⟩ (.int .i64 n)) w' := by
 have hd : decide (n < e1) = true := decide_eq_true h
 go_enter Tryz.func44, Tryz.ntmps44
 go_wp2
 refine start_ (n := 7) (S := (fun w' => w'.heap[g]? = some (.cells cs t (0, 0)) ∧ w'.heap[w.heap.size]? = some (.cells #[.int .i64 e0, .int .i64 e1, .int .i64 e2] 47 (0, 0)))) (ds := []) (Array.replicate 7 false) (by kernel_rfl) rfl rfl ⟨blk_drew (blk_alloc HG.out _), blk_drew (newBlk w _)⟩ (fun hHeld => ?_)
 refine with_tabW moveStep.tab4 moveStep.bits4 (fun HT_ HW_ => ?_)
 refine pz 0 19 HT_ ?_; refine pz 1 20 HT_ ?_; refine pz 3 22 HT_ ?_
 refine tz 2 21 HT_ HW_ (hr := (by rintro w' s0; have q1 : w'.cell? ⟨g, j, none⟩ = some (.int .i64 n) := (blk_cell s0.1 j).trans HJ.out; have q2 := fun i => blk_cell s0.2 i; go_simp; with_reducible rfl)) (hS := hHeld) (h := ?_)
 refine tz 4 23 HT_ HW_ (hr := (by rintro w' s0; have q1 : w'.cell? ⟨g, j, none⟩ = some (.int .i64 n) := (blk_cell s0.1 j).trans HJ.out; have q2 := fun i => blk_cell s0.2 i; go_simp; with_reducible rfl)) (hS := hHeld) (h := ?_)
 refine pz 5 24 HT_ ?_; refine pz 6 18 HT_ ?_
 refine done_ (done_of HT_.out (by kernel_rfl)) ?_
 go_wp2
 go_ret
 exact ⟨rfl, below_same (below_drew1 (bel1 w _)) HG.out HJ.out⟩
theorem step_ins (e0 e1 e2 n x m : Int) (g j : Nat) (cs : Array Value) (t : TypeId) (w : World) (HG : Aside0 (w.heap[g]? = some (.cells cs t (0, 0)))) (HJ : Aside0 (cs[j]? = some (.int .i64 n))) (h : ¬n < e1) (HI : Aside0 (move_inserts.f e0 e1 e2 = some true)) (HM : Aside0 (move_most.f e0 e1 e2 = some m)) (hx : IntKind.i64.wrap (n + e2) = x) :
  Calls Tryz.prog 44 #[.agg (edA e0 e1 e2), .pointer (some ⟨g, j, none⟩)] w fun e w' => e = .returned (.int .i64 (if x > m then 2 else 0)) ∧ Below w.heap.size (w.setCell ⟨g, j, none⟩ (.int .i64 x)) w' := by
 have hd : decide (n < e1) = false := decide_eq_false h
 have HJ2 := Aside0.mk (put_at (v := .int .i64 x) HJ.out)
 have hgw := blk_lt HG.out
 have hne : w.heap.size ≠ g := by omega
 go_enter Tryz.func44, Tryz.ntmps44
 go_wp2
 refine start_ (n := 7) (S := (fun w' => w'.heap[g]? = some (.cells cs t (0, 0)) ∧ w'.heap[w.heap.size]? = some (.cells #[.int .i64 e0, .int .i64 e1, .int .i64 e2] 47 (0, 0)))) (ds := []) (Array.replicate 7 false) (by kernel_rfl) rfl rfl ⟨blk_drew (blk_alloc HG.out _), blk_drew (newBlk w _)⟩ (fun hHeld => ?_)
 refine with_tabW moveStep.tab4 moveStep.bits4 (fun HT_ HW_ => ?_)
 refine pz 0 19 HT_ ?_; refine pz 1 20 HT_ ?_; refine pz 3 22 HT_ ?_
 refine tz 2 21 HT_ HW_ (hr := (by rintro w' s0; have q1 : w'.cell? ⟨g, j, none⟩ = some (.int .i64 n) := (blk_cell s0.1 j).trans HJ.out; have q2 := fun i => blk_cell s0.2 i; go_simp; with_reducible rfl)) (hS := hHeld) (h := ?_)
 refine tz 4 23 HT_ HW_ (hr := (by rintro w' s0; have q1 : w'.cell? ⟨g, j, none⟩ = some (.int .i64 n) := (blk_cell s0.1 j).trans HJ.out; have q2 := fun i => blk_cell s0.2 i; go_simp; with_reducible rfl)) (hS := hHeld) (h := ?_)
 refine pz 5 24 HT_ ?_; refine pz 6 18 HT_ ?_
 refine done_ (done_of HT_.out (by kernel_rfl)) ?_
 go_wp2_with (go_at_call 50; (with_reducible refine (move_inserts.calls _ _ _ _ _ HI.out).mono ?_); rintro e w1 ⟨rfl, hb⟩; have G1 := Aside0.mk (blk_below (blk_drew (blk_alloc HG.out _)) hb); have E1 := Aside0.mk (blk_below (blk_drew (newBlk w _)) hb); have HB1 := Aside0.mk (below_step (below_drew1 (bel1 w _)) hb); clear hb)
 refine start_ (n := 8) (S := (fun w' => w'.heap[g]? = some (.cells cs t (0, 0)) ∧ w'.heap[w.heap.size]? = some (.cells #[.int .i64 e0, .int .i64 e1, .int .i64 e2] 47 (0, 0)))) (ds := [7]) (Array.replicate 8 false) (by kernel_rfl) rfl rfl ⟨blk_drew G1.out, blk_drew E1.out⟩ (fun hHeld => ?_)
 refine with_tabW moveStep.tab6 moveStep.bits6 (fun HT_ HW_ => ?_)
 refine pz 0 28 HT_ ?_; refine pz 1 29 HT_ ?_; refine pz 3 31 HT_ ?_
 refine tz 2 30 HT_ HW_ (hr := (by rintro w' s0; have q1 : w'.cell? ⟨g, j, none⟩ = some (.int .i64 n) := (blk_cell s0.1 j).trans HJ.out; have q2 := fun i => blk_cell s0.2 i; go_simp; with_reducible rfl)) (hS := hHeld) (h := ?_)
 refine tz 4 32 HT_ HW_ (hr := (by rintro w' s0; have q1 : w'.cell? ⟨g, j, none⟩ = some (.int .i64 n) := (blk_cell s0.1 j).trans HJ.out; have q2 := fun i => blk_cell s0.2 i; go_simp; with_reducible rfl)) (hS := hHeld) (h := ?_)
 refine pz 5 33 HT_ ?_; refine pz 6 34 HT_ ?_
 refine lastI 7 none HT_ rfl rfl (by kernel_rfl) (by decide) (fun K hK => ?_)
 have hs := (blk_cell hHeld.1 j).trans HJ.out
 have hf := blk_frozen hHeld.1 j
 refine skip_ (w1 := ?_) (by rfl) rfl ?_ ?_
 rotate_left
 ·go_simp
  rfl
 refine hK.out _ _ ?_
 clear hK K hs hf
 -- norm_
 refine done_ (done_of HT_.out (by kernel_rfl)) ?_
 go_wp2
 try simp only [hx]
 have G2 := Aside0.mk (blk_put G1.out j (.int .i64 x) (cs' := cs.setIfInBounds j (.int .i64 x)) rfl)
 have E2 := Aside0.mk (blk_far (p := ⟨g, j, none⟩) E1.out hne (.int .i64 x))
 refine start_ (n := 6) (S := (fun w' => w'.heap[g]? = some (.cells (cs.setIfInBounds j (.int .i64 x)) t (0, 0)) ∧ w'.heap[w.heap.size]? = some (.cells #[.int .i64 e0, .int .i64 e1, .int .i64 e2] 47 (0, 0)))) (ds := []) (Array.replicate 6 false) (by kernel_rfl) rfl rfl ⟨blk_drew (blk_drew G2.out), blk_drew (blk_drew E2.out)⟩ (fun hHeld => ?_)
 refine with_tabW moveStep.tab7 moveStep.bits7 (fun HT_ HW_ => ?_)
 refine pz 0 35 HT_ ?_; refine pz 1 36 HT_ ?_
 refine tz 2 37 HT_ HW_ (hr := (by rintro w' s0; have q1 : w'.cell? ⟨g, j, none⟩ = some (.int .i64 x) := (blk_cell s0.1 j).trans HJ2.out; have q2 := fun i => blk_cell s0.2 i; go_simp; with_reducible rfl)) (hS := hHeld) (h := ?_)
 refine tz 3 38 HT_ HW_ (hr := (by rintro w' s0; have q1 : w'.cell? ⟨g, j, none⟩ = some (.int .i64 x) := (blk_cell s0.1 j).trans HJ2.out; have q2 := fun i => blk_cell s0.2 i; go_simp; with_reducible rfl)) (hS := hHeld) (h := ?_)
 refine oneI 4 (some 39) HT_ rfl rfl (by kernel_rfl) (by decide) (fun K hK => ?_)
 refine goes_ Tryz.func70 (by kernel_rfl) rfl #[.agg #[.int .i64 e0, .int .i64 e1, .int .i64 e2]] (by (try simp only [List.map_toArray, List.map_cons, List.map_nil]); first | done | rfl) rfl rfl (by first | rfl | ((try simp only [List.map_toArray, List.map_cons, List.map_nil]); first | done | rfl)) ?_
 with_reducible refine (move_most.calls _ _ _ _ _ HM.out).mono ?_
 rintro e w4 ⟨rfl, hb⟩
 refine ⟨_, rfl, ?_⟩
 have HB4 := Aside0.mk hb
 refine hK.out _ _ ⟨blk_below hHeld.1 hb, blk_below hHeld.2 hb⟩ (fun hHeld => ?_)
 clear hK K
 refine nz 39 ?_
 refine pz 5 40 HT_ ?_
 refine done_ (done_of HT_.out (by kernel_rfl)) ?_
 go_wp2
 all_goals (go_ret; exact ⟨by first | rfl | (simp_all; done) | (simp_all; omega), below_stepP (below_drew1 (below_drew1 (below_put HB1.out HG.out))) HB4.out⟩)
theorem step_del (e0 e1 e2 n x : Int) (g j : Nat) (cs : Array Value) (t : TypeId) (w : World) (HG : Aside0 (w.heap[g]? = some (.cells cs t (0, 0)))) (HJ : Aside0 (cs[j]? = some (.int .i64 n))) (h : ¬n < e1) (HI : Aside0 (move_inserts.f e0 e1 e2 = some false)) (hx : IntKind.i64.wrap (n - e2) = x) :
  Calls Tryz.prog 44 #[.agg (edA e0 e1 e2), .pointer (some ⟨g, j, none⟩)] w fun e w' => e = .returned (.int .i64 (if x < e1 then 1 else 0)) ∧ Below w.heap.size (w.setCell ⟨g, j, none⟩ (.int .i64 x)) w' := by
 have hd : decide (n < e1) = false := decide_eq_false h
 have HJ2 := Aside0.mk (put_at (v := .int .i64 x) HJ.out)
 have hgw := blk_lt HG.out
 have hne : w.heap.size ≠ g := by omega
 go_enter Tryz.func44, Tryz.ntmps44
 go_wp2
 refine start_ (n := 7) (S := (fun w' => w'.heap[g]? = some (.cells cs t (0, 0)) ∧ w'.heap[w.heap.size]? = some (.cells #[.int .i64 e0, .int .i64 e1, .int .i64 e2] 47 (0, 0)))) (ds := []) (Array.replicate 7 false) (by kernel_rfl) rfl rfl ⟨blk_drew (blk_alloc HG.out _), blk_drew (newBlk w _)⟩ (fun hHeld => ?_)
 refine with_tabW moveStep.tab4 moveStep.bits4 (fun HT_ HW_ => ?_)
 refine pz 0 19 HT_ ?_; refine pz 1 20 HT_ ?_; refine pz 3 22 HT_ ?_
 refine tz 2 21 HT_ HW_ (hr := (by rintro w' s0; have q1 : w'.cell? ⟨g, j, none⟩ = some (.int .i64 n) := (blk_cell s0.1 j).trans HJ.out; have q2 := fun i => blk_cell s0.2 i; go_simp; with_reducible rfl)) (hS := hHeld) (h := ?_)
 refine tz 4 23 HT_ HW_ (hr := (by rintro w' s0; have q1 : w'.cell? ⟨g, j, none⟩ = some (.int .i64 n) := (blk_cell s0.1 j).trans HJ.out; have q2 := fun i => blk_cell s0.2 i; go_simp; with_reducible rfl)) (hS := hHeld) (h := ?_)
 refine pz 5 24 HT_ ?_; refine pz 6 18 HT_ ?_
 refine done_ (done_of HT_.out (by kernel_rfl)) ?_
 go_wp2_with (go_at_call 50; (with_reducible refine (move_inserts.calls _ _ _ _ _ HI.out).mono ?_); rintro e w1 ⟨rfl, hb⟩; have G1 := Aside0.mk (blk_below (blk_drew (blk_alloc HG.out _)) hb); have E1 := Aside0.mk (blk_below (blk_drew (newBlk w _)) hb); have HB1 := Aside0.mk (below_step (below_drew1 (bel1 w _)) hb); clear hb)
 refine start_ (n := 8) (S := (fun w' => w'.heap[g]? = some (.cells cs t (0, 0)) ∧ w'.heap[w.heap.size]? = some (.cells #[.int .i64 e0, .int .i64 e1, .int .i64 e2] 47 (0, 0)))) (ds := [7]) (Array.replicate 8 false) (by kernel_rfl) rfl rfl ⟨blk_drew G1.out, blk_drew E1.out⟩ (fun hHeld => ?_)
 refine with_tabW moveStep.tab1 moveStep.bits1 (fun HT_ HW_ => ?_)
 refine pz 0 5 HT_ ?_; refine pz 1 6 HT_ ?_; refine pz 3 8 HT_ ?_
 refine tz 2 7 HT_ HW_ (hr := (by rintro w' s0; have q1 : w'.cell? ⟨g, j, none⟩ = some (.int .i64 n) := (blk_cell s0.1 j).trans HJ.out; have q2 := fun i => blk_cell s0.2 i; go_simp; with_reducible rfl)) (hS := hHeld) (h := ?_)
 refine tz 4 9 HT_ HW_ (hr := (by rintro w' s0; have q1 : w'.cell? ⟨g, j, none⟩ = some (.int .i64 n) := (blk_cell s0.1 j).trans HJ.out; have q2 := fun i => blk_cell s0.2 i; go_simp; with_reducible rfl)) (hS := hHeld) (h := ?_)
 refine pz 5 10 HT_ ?_; refine pz 6 11 HT_ ?_
 refine lastI 7 none HT_ rfl rfl (by kernel_rfl) (by decide) (fun K hK => ?_)
 have hs := (blk_cell hHeld.1 j).trans HJ.out
 have hf := blk_frozen hHeld.1 j
 refine skip_ (w1 := ?_) (by rfl) rfl ?_ ?_
 rotate_left
 ·go_simp
  rfl
 refine hK.out _ _ ?_
 clear hK K hs hf
 -- norm_
 refine done_ (done_of HT_.out (by kernel_rfl)) ?_
 go_wp2
 try simp only [hx]
 have G2 := Aside0.mk (blk_put G1.out j (.int .i64 x) (cs' := cs.setIfInBounds j (.int .i64 x)) rfl)
 have E2 := Aside0.mk (blk_far (p := ⟨g, j, none⟩) E1.out hne (.int .i64 x))
 refine start_ (n := 6) (S := (fun w' => w'.heap[g]? = some (.cells (cs.setIfInBounds j (.int .i64 x)) t (0, 0)) ∧ w'.heap[w.heap.size]? = some (.cells #[.int .i64 e0, .int .i64 e1, .int .i64 e2] 47 (0, 0)))) (ds := []) (Array.replicate 6 false) (by kernel_rfl) rfl rfl ⟨blk_drew (blk_drew G2.out), blk_drew (blk_drew E2.out)⟩ (fun hHeld => ?_)
 refine with_tabW moveStep.tab2 moveStep.bits2 (fun HT_ HW_ => ?_)
 refine pz 0 12 HT_ ?_; refine pz 1 13 HT_ ?_; refine pz 3 15 HT_ ?_
 refine tz 2 14 HT_ HW_ (hr := (by rintro w' s0; have q1 : w'.cell? ⟨g, j, none⟩ = some (.int .i64 x) := (blk_cell s0.1 j).trans HJ2.out; have q2 := fun i => blk_cell s0.2 i; go_simp; with_reducible rfl)) (hS := hHeld) (h := ?_)
 refine tz 4 16 HT_ HW_ (hr := (by rintro w' s0; have q1 : w'.cell? ⟨g, j, none⟩ = some (.int .i64 x) := (blk_cell s0.1 j).trans HJ2.out; have q2 := fun i => blk_cell s0.2 i; go_simp; with_reducible rfl)) (hS := hHeld) (h := ?_)
 refine pz 5 17 HT_ ?_
 refine done_ (done_of HT_.out (by kernel_rfl)) ?_
 go_wp2
 all_goals (go_ret; exact ⟨by first | rfl | (simp_all; done) | (simp_all; omega), below_drew1 (below_drew1 (below_put HB1.out HG.out))⟩)
abbrev wayV2 (P : Value) : Value := .agg #[.func (.func 71) #[] #[P], .func (.func 72) #[] #[P]]
def CellLaw2 (P : Value) (X : Ce → Ce) (b : Ce → Bool) (w : World) : Prop := ∀ (c : Ce) (W : World), Below w.heap.size w W → Calls Tryz.prog 71 #[.agg (cellA c), P] W fun e w' => e = .returned (.tuple #[.agg (cellA (X c)), .bool (b c)]) ∧ Below W.heap.size W w'
def SpanLaw2 (P : Value) (X Y : Ce → Ce → Ce) (b : Ce → Ce → Bool) (w : World) : Prop := ∀ (a c : Ce) (W : World), Below w.heap.size w W → Calls Tryz.prog 72 #[.agg (cellA a), .agg (cellA c), P] W fun e w' => e = .returned (.tuple #[.agg (cellA (X a c)), .agg (cellA (Y a c)), .bool (b a c)]) ∧ Below W.heap.size W w'
theorem CellLaw2.below {P : Value} {X : Ce → Ce} {b : Ce → Bool} {w w1 : World} (h : CellLaw2 P X b w) (hb : Below w.heap.size w w1) : CellLaw2 P X b w1 := fun c W hW => h c W (below_step hb hW)
theorem SpanLaw2.below {P : Value} {X Y : Ce → Ce → Ce} {b : Ce → Ce → Bool} {w w1 : World} (h : SpanLaw2 P X Y b w) (hb : Below w.heap.size w w1) : SpanLaw2 P X Y b w1 := fun a c W hW => h a c W (below_step hb hW)
theorem node2_cell_some (P : Value) (f1 : S26) (f2 f3 x : Ce) (f4 : ByteArray) (A : Option Addr) (c : Nat) (w : World)
  (hC : ∀ (W : World), Below w.heap.size w W → Calls Tryz.prog 71 #[.agg (cellA f2), P] W fun e w' => e = .returned (.tuple #[.agg (cellA x), .bool true]) ∧ Below W.heap.size W w') :
  Calls Tryz.prog 33 #[wayV2 P, nodeV ⟨2, f1, f2, f3, f4, []⟩ A c] w (NodeOut ⟨2, f1, x, f3, f4, []⟩ w) := by
 have HC := Aside0.mk hC
 clear hC
 have hne : w.heap.size + 2 ≠ w.heap.size + 1 := by omega
 go_enter Tryz.func33, Tryz.ntmps33
 go_wp2_with (first
  | (go_at_call 71; (with_reducible refine (HC.out _ (bel3 w _ _ _)).mono ?_); rintro e w1 ⟨rfl, hb⟩; have HB1 := Aside0.mk (below_step (bel3 w _ _ _) hb); have B3 := Aside0.mk (blk_below (newBlk3b w (.cells #[.func (.func 71) #[] #[P], .func (.func 72) #[] #[P]] 76) (.cells (nodeA ⟨2, f1, f2, f3, f4, []⟩ A c) 33) (.cells (nodeA zeroN none 0) 33)) hb); have B4 := Aside0.mk (blk_below (newBlk3c w (.cells #[.func (.func 71) #[] #[P], .func (.func 72) #[] #[P]] 76) (.cells (nodeA ⟨2, f1, f2, f3, f4, []⟩ A c) 33) (.cells (nodeA zeroN none 0) 33)) hb); have hc := fun i => blk_cell B3.out i; have hf := fun i => blk_frozen B3.out i; clear hb))
 refine wp_loop_rounds 1 ?_
 rw [rounds_succ]
 go_wp2_with ((with_reducible refine gate_store (t := 33) (p := 4) (v := .tmp 56) rfl ?_); refine wpRowSt rfl 33 (.tmp 4) (.tmp 56) rfl (w.heap.size + 2) (nodeA ⟨2, f1, x, f3, f4, []⟩ none 0) rfl rfl 33 _ (blk_far (p := ⟨w.heap.size + 1, 15, none⟩) (blk_far (p := ⟨w.heap.size + 1, 9, none⟩) (blk_far (p := ⟨w.heap.size + 1, 8, none⟩) (blk_far (p := ⟨w.heap.size + 1, 7, none⟩) (blk_far (p := ⟨w.heap.size + 1, 6, none⟩) B4.out hne _) hne _) hne _) hne _) hne _) (by kernel_rfl) rfl rfl ?_)
 refine bodyPost_ret (results_cell_row rfl _ _ (w.heap.size + 2) 33 (nodeA ⟨2, f1, x, f3, f4, []⟩ none 0) (0, 0) _ rfl (setRow_heap _ _ _ _ _ _ (blk_far (p := ⟨w.heap.size + 1, 15, none⟩) (blk_far (p := ⟨w.heap.size + 1, 9, none⟩) (blk_far (p := ⟨w.heap.size + 1, 8, none⟩) (blk_far (p := ⟨w.heap.size + 1, 7, none⟩) (blk_far (p := ⟨w.heap.size + 1, 6, none⟩) B4.out hne _) hne _) hne _) hne _) hne _)) Tryz.underlying33 rfl (by kernel_rfl)) rfl ?_
 exact ⟨none, 0, rfl, kidsF_nil _ _ _ _, rowBelow (below_set (below_set (below_set (below_set (below_set HB1.out (Nat.le_succ _)) (Nat.le_succ _)) (Nat.le_succ _)) (Nat.le_succ _)) (Nat.le_succ _)) (by omega) _⟩
theorem node2_cell_none (P : Value) (f1 : S26) (f2 f3 x : Ce) (f4 : ByteArray) (A : Option Addr) (c : Nat) (w : World)
  (hC : ∀ (W : World), Below w.heap.size w W → Calls Tryz.prog 71 #[.agg (cellA f2), P] W fun e w' => e = .returned (.tuple #[.agg (cellA x), .bool false]) ∧ Below W.heap.size W w') :
  Calls Tryz.prog 33 #[wayV2 P, nodeV ⟨2, f1, f2, f3, f4, []⟩ A c] w (NodeOut lostN w) := by
 have HC := Aside0.mk hC
 clear hC
 have hne : w.heap.size + 2 ≠ w.heap.size + 1 := by omega
 go_enter Tryz.func33, Tryz.ntmps33
 go_wp2_with (first
  | (go_at_call 71; (with_reducible refine (HC.out _ (bel3 w _ _ _)).mono ?_); rintro e w1 ⟨rfl, hb⟩; have HB1 := Aside0.mk (below_step (bel3 w _ _ _) hb); have B3 := Aside0.mk (blk_below (newBlk3b w (.cells #[.func (.func 71) #[] #[P], .func (.func 72) #[] #[P]] 76) (.cells (nodeA ⟨2, f1, f2, f3, f4, []⟩ A c) 33) (.cells (nodeA zeroN none 0) 33)) hb); have B4 := Aside0.mk (blk_below (newBlk3c w (.cells #[.func (.func 71) #[] #[P], .func (.func 72) #[] #[P]] 76) (.cells (nodeA ⟨2, f1, f2, f3, f4, []⟩ A c) 33) (.cells (nodeA zeroN none 0) 33)) hb); have hc := fun i => blk_cell B3.out i; have hf := fun i => blk_frozen B3.out i; clear hb)
  | (go_at_call 58; (with_reducible refine (lost_calls _).mono ?_); rintro e w3 ⟨rfl, hb⟩; have HB3 := Aside0.mk (below_step (below_set (below_set (below_set (below_set HB1.out (Nat.le_succ _)) (Nat.le_succ _)) (Nat.le_succ _)) (Nat.le_succ _)) hb); have D4 := Aside0.mk (blk_below (blk_far (p := ⟨w.heap.size + 1, 9, none⟩) (blk_far (p := ⟨w.heap.size + 1, 8, none⟩) (blk_far (p := ⟨w.heap.size + 1, 7, none⟩) (blk_far (p := ⟨w.heap.size + 1, 6, none⟩) B4.out hne _) hne _) hne _) hne _) hb); clear hb)
  | ((with_reducible refine gate_store (t := 33) (p := 4) (v := .tmp 39) rfl ?_); refine wpRowSt rfl 33 (.tmp 4) (.tmp 39) rfl (w.heap.size + 2) (nodeA lostN none 0) rfl rfl 33 _ D4.out (by kernel_rfl) rfl rfl ?_))
 refine bodyPost_ret (results_cell_row rfl _ _ (w.heap.size + 2) 33 (nodeA lostN none 0) (0, 0) _ rfl (setRow_heap _ _ _ _ _ _ D4.out) Tryz.underlying33 rfl (by kernel_rfl)) rfl ?_
 exact ⟨none, 0, rfl, kidsF_nil _ _ _ _, rowBelow HB3.out (by omega) _⟩
theorem node2_span_some (P : Value) (f1 : S26) (f2 f3 x y : Ce) (f4 : ByteArray) (A : Option Addr) (c : Nat) (w : World)
  (hC : ∀ (W : World), Below w.heap.size w W → Calls Tryz.prog 72 #[.agg (cellA f2), .agg (cellA f3), P] W fun e w' => e = .returned (.tuple #[.agg (cellA x), .agg (cellA y), .bool true]) ∧ Below W.heap.size W w') :
  Calls Tryz.prog 33 #[wayV2 P, nodeV ⟨3, f1, f2, f3, f4, []⟩ A c] w (NodeOut ⟨3, f1, x, y, f4, []⟩ w) := by
 have HC := Aside0.mk hC
 clear hC
 have hne : w.heap.size + 2 ≠ w.heap.size + 1 := by omega
 go_enter Tryz.func33, Tryz.ntmps33
 go_wp2_with (first
  | (go_at_call 72; (with_reducible refine (HC.out _ (bel3 w _ _ _)).mono ?_); rintro e w1 ⟨rfl, hb⟩; have HB1 := Aside0.mk (below_step (bel3 w _ _ _) hb); have B3 := Aside0.mk (blk_below (newBlk3b w (.cells #[.func (.func 71) #[] #[P], .func (.func 72) #[] #[P]] 76) (.cells (nodeA ⟨3, f1, f2, f3, f4, []⟩ A c) 33) (.cells (nodeA zeroN none 0) 33)) hb); have B4 := Aside0.mk (blk_below (newBlk3c w (.cells #[.func (.func 71) #[] #[P], .func (.func 72) #[] #[P]] 76) (.cells (nodeA ⟨3, f1, f2, f3, f4, []⟩ A c) 33) (.cells (nodeA zeroN none 0) 33)) hb); have hc := fun i => blk_cell B3.out i; have hf := fun i => blk_frozen B3.out i; clear hb))
 refine wp_loop_rounds 1 ?_
 rw [rounds_succ]
 go_wp2_with ((with_reducible refine gate_store (t := 33) (p := 4) (v := .tmp 56) rfl ?_); refine wpRowSt rfl 33 (.tmp 4) (.tmp 56) rfl (w.heap.size + 2) (nodeA ⟨3, f1, x, y, f4, []⟩ none 0) rfl rfl 33 _ (blk_far (p := ⟨w.heap.size + 1, 15, none⟩) (blk_far (p := ⟨w.heap.size + 1, 13, none⟩) (blk_far (p := ⟨w.heap.size + 1, 12, none⟩) (blk_far (p := ⟨w.heap.size + 1, 11, none⟩) (blk_far (p := ⟨w.heap.size + 1, 10, none⟩) (blk_far (p := ⟨w.heap.size + 1, 9, none⟩) (blk_far (p := ⟨w.heap.size + 1, 8, none⟩) (blk_far (p := ⟨w.heap.size + 1, 7, none⟩) (blk_far (p := ⟨w.heap.size + 1, 6, none⟩) B4.out hne _) hne _) hne _) hne _) hne _) hne _) hne _) hne _) hne _) (by kernel_rfl) rfl rfl ?_)
 refine bodyPost_ret (results_cell_row rfl _ _ (w.heap.size + 2) 33 (nodeA ⟨3, f1, x, y, f4, []⟩ none 0) (0, 0) _ rfl (setRow_heap _ _ _ _ _ _ (blk_far (p := ⟨w.heap.size + 1, 15, none⟩) (blk_far (p := ⟨w.heap.size + 1, 13, none⟩) (blk_far (p := ⟨w.heap.size + 1, 12, none⟩) (blk_far (p := ⟨w.heap.size + 1, 11, none⟩) (blk_far (p := ⟨w.heap.size + 1, 10, none⟩) (blk_far (p := ⟨w.heap.size + 1, 9, none⟩) (blk_far (p := ⟨w.heap.size + 1, 8, none⟩) (blk_far (p := ⟨w.heap.size + 1, 7, none⟩) (blk_far (p := ⟨w.heap.size + 1, 6, none⟩) B4.out hne _) hne _) hne _) hne _) hne _) hne _) hne _) hne _) hne _)) Tryz.underlying33 rfl (by kernel_rfl)) rfl ?_
 exact ⟨none, 0, rfl, kidsF_nil _ _ _ _, rowBelow (below_set (below_set (below_set (below_set (below_set (below_set (below_set (below_set (below_set HB1.out (Nat.le_succ _)) (Nat.le_succ _)) (Nat.le_succ _)) (Nat.le_succ _)) (Nat.le_succ _)) (Nat.le_succ _)) (Nat.le_succ _)) (Nat.le_succ _)) (Nat.le_succ _)) (by omega) _⟩
theorem node2_span_none (P : Value) (f1 : S26) (f2 f3 x y : Ce) (f4 : ByteArray) (A : Option Addr) (c : Nat) (w : World)
  (hC : ∀ (W : World), Below w.heap.size w W → Calls Tryz.prog 72 #[.agg (cellA f2), .agg (cellA f3), P] W fun e w' => e = .returned (.tuple #[.agg (cellA x), .agg (cellA y), .bool false]) ∧ Below W.heap.size W w') :
  Calls Tryz.prog 33 #[wayV2 P, nodeV ⟨3, f1, f2, f3, f4, []⟩ A c] w (NodeOut lostN w) := by
 have HC := Aside0.mk hC
 clear hC
 have hne : w.heap.size + 2 ≠ w.heap.size + 1 := by omega
 go_enter Tryz.func33, Tryz.ntmps33
 go_wp2_with (first
  | (go_at_call 72; (with_reducible refine (HC.out _ (bel3 w _ _ _)).mono ?_); rintro e w1 ⟨rfl, hb⟩; have HB1 := Aside0.mk (below_step (bel3 w _ _ _) hb); have B3 := Aside0.mk (blk_below (newBlk3b w (.cells #[.func (.func 71) #[] #[P], .func (.func 72) #[] #[P]] 76) (.cells (nodeA ⟨3, f1, f2, f3, f4, []⟩ A c) 33) (.cells (nodeA zeroN none 0) 33)) hb); have B4 := Aside0.mk (blk_below (newBlk3c w (.cells #[.func (.func 71) #[] #[P], .func (.func 72) #[] #[P]] 76) (.cells (nodeA ⟨3, f1, f2, f3, f4, []⟩ A c) 33) (.cells (nodeA zeroN none 0) 33)) hb); have hc := fun i => blk_cell B3.out i; have hf := fun i => blk_frozen B3.out i; clear hb)
  | (go_at_call 58; (with_reducible refine (lost_calls _).mono ?_); rintro e w3 ⟨rfl, hb⟩; have HB3 := Aside0.mk (below_step (below_set (below_set (below_set (below_set (below_set (below_set (below_set (below_set HB1.out (Nat.le_succ _)) (Nat.le_succ _)) (Nat.le_succ _)) (Nat.le_succ _)) (Nat.le_succ _)) (Nat.le_succ _)) (Nat.le_succ _)) (Nat.le_succ _)) hb); have D4 := Aside0.mk (blk_below (blk_far (p := ⟨w.heap.size + 1, 13, none⟩) (blk_far (p := ⟨w.heap.size + 1, 12, none⟩) (blk_far (p := ⟨w.heap.size + 1, 11, none⟩) (blk_far (p := ⟨w.heap.size + 1, 10, none⟩) (blk_far (p := ⟨w.heap.size + 1, 9, none⟩) (blk_far (p := ⟨w.heap.size + 1, 8, none⟩) (blk_far (p := ⟨w.heap.size + 1, 7, none⟩) (blk_far (p := ⟨w.heap.size + 1, 6, none⟩) B4.out hne _) hne _) hne _) hne _) hne _) hne _) hne _) hne _) hb); clear hb)
  | ((with_reducible refine gate_store (t := 33) (p := 4) (v := .tmp 39) rfl ?_); refine wpRowSt rfl 33 (.tmp 4) (.tmp 39) rfl (w.heap.size + 2) (nodeA lostN none 0) rfl rfl 33 _ D4.out (by kernel_rfl) rfl rfl ?_))
 refine bodyPost_ret (results_cell_row rfl _ _ (w.heap.size + 2) 33 (nodeA lostN none 0) (0, 0) _ rfl (setRow_heap _ _ _ _ _ _ D4.out) Tryz.underlying33 rfl (by kernel_rfl)) rfl ?_
 exact ⟨none, 0, rfl, kidsF_nil _ _ _ _, rowBelow HB3.out (by omega) _⟩
theorem node2_calls (P : Value) (X : Ce → Ce) (b : Ce → Bool) (Y Z : Ce → Ce → Ce) (b2 : Ce → Ce → Bool) (d : Nat) : ∀ (n : Nd) (A : Option Addr) (c : Nat) (w : World) (hd : szN n < d) (hK : KidsC w A c n.f5) (hS : allS leafB n = true)
  (hC : CellLaw2 P X b w) (hD : SpanLaw2 P Y Z b2 w),
  Calls Tryz.prog 33 #[wayV2 P, nodeV n A c] w (NodeOut (wayS (way1 X b) (way2 Y Z b2) n) w) := by
 induction d with
 | zero => intro n A c w hd; omega
 | succ d ih =>
 intro n A c w hd hK hS hC hD
 by_cases h2 : n.f0 = 2
 ·have hl0 := leaf_nil (allS_kid hS).1 (Or.inl h2)
  rw [wayS_eq, if_pos h2, hl0]
  obtain ⟨f0, f1, f2, f3, f4, l⟩ := n
  simp only at h2 hl0
  subst h2
  subst hl0
  cases hq : b f2 with
  | true =>
   rw [show way1 X b f2 = some (X f2) from by unfold way1; rw [if_pos hq]]
   exact node2_cell_some P f1 f2 f3 (X f2) f4 A c w (fun W hW => by have := hC f2 W hW; rwa [hq] at this)
  | false =>
   rw [show way1 X b f2 = none from by unfold way1; rw [if_neg (by simp [hq])]]
   exact node2_cell_none P f1 f2 f3 (X f2) f4 A c w (fun W hW => by have := hC f2 W hW; rwa [hq] at this)
 by_cases h3 : n.f0 = 3
 ·have hl0 := leaf_nil (allS_kid hS).1 (Or.inr h3)
  rw [wayS_eq, if_neg h2, if_pos h3, hl0]
  obtain ⟨f0, f1, f2, f3, f4, l⟩ := n
  simp only at h3 hl0
  subst h3
  subst hl0
  cases hq : b2 f2 f3 with
  | true =>
   rw [show way2 Y Z b2 f2 f3 = some (Y f2 f3, Z f2 f3) from by unfold way2; rw [if_pos hq]]
   exact node2_span_some P f1 f2 f3 (Y f2 f3) (Z f2 f3) f4 A c w (fun W hW => by have := hD f2 f3 W hW; rwa [hq] at this)
  | false =>
   rw [show way2 Y Z b2 f2 f3 = none from by unfold way2; rw [if_neg (by simp [hq])]]
   exact node2_span_none P f1 f2 f3 (Y f2 f3) (Z f2 f3) f4 A c w (fun W hW => by have := hD f2 f3 W hW; rwa [hq] at this)
 ·obtain ⟨hlc, hCC⟩ := hK
  have hmax := hCC.2.1
  have HC := Aside0.mk hCC
  have HD := Aside0.mk hd
  have HS := Aside0.mk (allS_kid hS)
  have hfew : n.f5.length ≤ 4096 := by have := HS.out.1; simp only [leafB, Bool.and_eq_true, decide_eq_true_eq] at this; exact this.1
  have HI := Aside0.mk fun (x : Nd) (A : Option Addr) (c : Nat) (W : World) (hm : x ∈ n.f5) (hW : Below w.heap.size w W) (hx : KidsC W A c x.f5) => ih x A c W (by have := kid_lt hm; have := HD.out; omega) hx (HS.out.2 _ hm) (hC.below hW) (hD.below hW)
  clear hCC ih hd hS HS HD hC hD
  have HX := Aside0.mk (show wayS (way1 X b) (way2 Y Z b2) n = withK n (n.f5.map (wayS (way1 X b) (way2 Y Z b2))) by rw [wayS_eq, if_neg h2, if_neg h3])
  generalize hG : wayS (way1 X b) (way2 Y Z b2) = g at HX HI ⊢
  generalize g n = x at HX ⊢
  clear hG
  have hb2 : (n.f0 == 2) = false := by simp [h2]
  have hb3 : (n.f0 == 3) = false := by simp [h3]
  go_enter Tryz.func33, Tryz.ntmps33
  go_wp2
  go_loopw [6, 43] (fun v i wr => ∃ (q : Nat), q ≤ n.f5.length ∧ i = .int .i64 q ∧ Aside0 (Kd.N k33 33 wr w.heap.size (fun z => w.heap.size + 3 ≤ z) v ((n.f5.take q).map g)) ∧ Aside0 (w.heap.size + 3 ≤ wr.heap.size) ∧ Aside0 (Below w.heap.size w wr) ∧ Aside0 (wr.heap[w.heap.size]? = some (.cells #[.func (.func 71) #[] #[P], .func (.func 72) #[] #[P]] 76 (0, 0))) ∧ Aside0 (wr.heap[w.heap.size + 1]? = some (.cells (nodeA n A c) 33 (0, 0))) ∧ Aside0 (wr.heap[w.heap.size + 2]? = some (.cells (nodeA zeroN none 0) 33 (0, 0)))) (fun _ i _ => n.f5.length - (intOf i).toNat)
  case atStart => exact ⟨0, by omega, rfl, ⟨Kd.N_nil _ _ _ _ _⟩, ⟨by simp⟩, ⟨bel3 w _ _ _⟩, ⟨newBlk3a w _ _ _⟩, ⟨newBlk3b w _ _ _⟩, ⟨newBlk3c w _ _ _⟩⟩
  case round =>
   obtain ⟨q, hk, rfl, HN, HZ, HB, HW, HBk, HO⟩ := hrel
   by_cases hkl : q < n.f5.length
   ·obtain ⟨ad, A', c', e, hK', g0, g1, g2, g3, g4, g5, g6, g7, g8, g9, g10, g11, g12, g13, g14, g15⟩ := at_kid (Kd.C_below HC.out HB.out) q hkl
    subst e
    have HK' := Aside0.mk hK'
    clear hK'
    have HM := Aside0.mk (List.getElem_mem hkl)
    have HT := Aside0.mk (show (n.f5.take (q + 1)).map g = (n.f5.take q).map g ++ [g n.f5[q]] by rw [List.take_succ_eq_append_getElem hkl, List.map_append]; rfl)
    have hw := fun (o : Obj) (i : Nat) => blk_cell (blk_alloc HW.out o) i
    go_wp2_with (first
     | (go_at_call 33; (with_reducible refine (HI.out n.f5[q] A' c' _ HM.out (below_alloc HB.out _) (HK'.out.below (bel1 wr _))).mono ?_); rintro e w3 ⟨A2, c2, rfl, hF, hb⟩; have HB3 := Aside0.mk (below_step (bel1 wr _) hb); have HF := Aside0.mk (hF.lower (b' := wr.heap.size) (by simp)); clear hb hF)
     | (at_builtin; refine Kd.N_append k33 (w0 := w) w.heap.size rfl (.tmp 47) (.tmp 51) 31 33 (.agg #[(.int .i64 0), (.int .i64 0), (.int .i64 0), (.string ⟨#[]⟩), (.bool false), (.int .i64 0), (.int .i64 0), (.int .i64 0), (.bool false), (.bool false), (.int .i64 0), (.int .i64 0), (.bool false), (.bool false), (.string ⟨#[]⟩), (.slice none 0 0)]) 144 rfl Tryz.underlying31 info33 rfl (by decide) (by omega) _ ((n.f5.take q).map g) (g n.f5[q]) (nodeA (g n.f5[q]) A2 c2).toList (fun z => w.heap.size + 3 ≤ z) (fun z => wr.heap.size ≤ z) rfl rfl (kid_FK _ HF.out) ?aK ?aF (Kd.N_below HN.out HB3.out) (below_step HB.out HB3.out) ?aS ?aL ?_; (case aK => exact fun z hz => ⟨Nat.le_trans HZ.out hz, fun he => by have := Kd.N_lt HN.out _ he.symm; omega⟩); (case aF => exact fun z hz => by have := HZ.out; have := HB3.out.size; omega); (case aS => exact (below_size (below_step HB.out HB3.out))); (case aL => rw [List.length_map, List.length_take]; omega); intro v1 w4 ho hb2 hg hat; have HN2 := Aside0.mk ho; have HB2 := Aside0.mk hb2; have HG2 := Aside0.mk hg; clear ho hb2 hg hat))
    have h2' := blk_grown (blk_below HO.out HB3.out) HG2.out (fun he => by have := HN.out.1 _ he.symm; omega)
    refine ⟨⟨q + 1, by omega, by go_num, ⟨by rw [HT.out]; exact HN2.out⟩, ⟨by have := blk_lt h2'; omega⟩, HB2, ⟨blk_grown (blk_below HW.out HB3.out) HG2.out (fun he => by have := HN.out.1 _ he.symm; omega)⟩, ⟨blk_grown (blk_below HBk.out HB3.out) HG2.out (fun he => by have := HN.out.1 _ he.symm; omega)⟩, ⟨h2'⟩⟩, ?_⟩
    simp [intOf]; omega
   ·have HN' := Aside0.mk HN.out
    rw [List.take_of_length_le (by omega)] at HN'
    obtain ⟨A2, c2, rfl⟩ := Kd.N_slice HN'.out
    clear HN HC HI HW
    have hc := fun i => blk_cell HBk.out i
    have hf := fun i => blk_frozen HBk.out i
    have hne : w.heap.size + 2 ≠ w.heap.size + 1 := by omega
    go_wp2_with ((with_reducible refine gate_store (t := 33) (p := 4) (v := .tmp 56) rfl ?_); refine wpRowSt rfl 33 (.tmp 4) (.tmp 56) rfl (w.heap.size + 2) (nodeA n A2 c2) rfl rfl 33 _ (blk_far (p := ⟨w.heap.size + 1, 15, none⟩) HO.out hne _) (by kernel_rfl) rfl rfl ?_)
    refine bodyPost_ret (results_cell_row rfl _ _ (w.heap.size + 2) 33 (nodeA n A2 c2) (0, 0) _ rfl (setRow_heap _ _ _ _ _ _ (blk_far (p := ⟨w.heap.size + 1, 15, none⟩) HO.out hne _)) Tryz.underlying33 rfl (by kernel_rfl)) rfl ?_
    rw [HX.out]
    exact ⟨A2, c2, by rw [nodeV_withK n _ A2 c2 (List.length_map ..)], ⟨(Kd.N_reads' HN'.out).2.1, Kd.F_mono (Kd.F_step (Kd.N_F HN'.out) (fun z hz _ => (setRow_other _ _ z _ (by omega)).trans (Below.heap_setCell wr ⟨w.heap.size + 1, 15, none⟩ _ z (by show z ≠ w.heap.size + 1; omega)))) (fun z hz => by omega)⟩, rowBelow (below_set HB.out (Nat.le_succ _)) (by omega) _⟩
def IdxPost (l : List Nd) (b : Nd → Bool) (w : World) (e : Ending) (w' : World) : Prop := ∃ i : Int, e = .returned (.int .i64 i) ∧ decide (0 ≤ i) = l.any b ∧ -1 ≤ i ∧ i ≤ l.length ∧ Below w.heap.size w w'
def TestsKids (f : Nat) (l : List Nd) (b : Nd → Bool) (w : World) : Prop := ∀ (k : Nat) (hk : k < l.length) (A : Option Addr) (c : Nat) (W : World), Below w.heap.size w W → KidsC W A c (l[k]).f5 → Calls Tryz.prog f #[nodeV l[k] A c] W fun e w' => e = .returned (.bool (b l[k])) ∧ Below W.heap.size W w'
theorem IndexFunc_calls (l : List Nd) (b : Nd → Bool) (A : Option Addr) (c : Nat) (w : World) (hK : KidsC w A c l) (hT : TestsKids 92 l b w) :
  Calls Tryz.prog 113 #[.slice A l.length c, .func (.func 92) #[] #[]] w (IdxPost l b w) := by
 obtain ⟨hlc, hC⟩ := hK
 have hmax := hC.2.1
 have HC := Aside0.mk hC
 have HT := Aside0.mk hT
 clear hC hT
 go_enter Tryz.func113, Tryz.ntmps113
 go_wp2
 go_loopw [8] (fun i wr => ∃ (k : Nat), k ≤ l.length ∧ i = .int .i64 k ∧ Aside0 ((l.take k).any b = false) ∧ Aside0 (Below w.heap.size w wr)) (fun i _ => l.length - (intOf i).toNat)
 case atStart => exact ⟨0, by omega, rfl, ⟨rfl⟩, ⟨Below.refl _ _⟩⟩
 case round =>
  obtain ⟨k, hk, rfl, HX, HB⟩ := hrel
  by_cases hkl : k < l.length
  ·obtain ⟨ad, A', c', e, hK', g0, g1, g2, g3, g4, g5, g6, g7, g8, g9, g10, g11, g12, g13, g14, g15⟩ := at_kid (Kd.C_below HC.out HB.out) k hkl
   subst e
   have HCk := Aside0.mk (HT.out k hkl A' c' wr HB.out hK')
   clear hK'
   have HN := Aside0.mk (show (l.take (k + 1)).any b = b l[k] by rw [List.take_succ_eq_append_getElem hkl, List.any_append, HX.out]; simp)
   have HM := Aside0.mk (List.getElem_mem hkl)
   cases hq : b l[k] with
   | false =>
    rw [hq] at HCk HN
    clear hq
    go_wp2_with (go_at_call 92; (with_reducible refine HCk.out.mono ?_); rintro e w1 ⟨rfl, hb⟩; have HB1 := Aside0.mk hb; clear hb)
    refine ⟨⟨k + 1, by omega, by go_num, HN, ⟨below_step HB.out HB1.out⟩⟩, ?_⟩
    simp [intOf]; omega
   | true =>
    rw [hq] at HCk
    have HQ := Aside0.mk hq
    clear hq
    go_wp2_with (go_at_call 92; (with_reducible refine HCk.out.mono ?_); rintro e w1 ⟨rfl, hb⟩; have HB1 := Aside0.mk hb; clear hb)
    go_ret
    exact ⟨k, rfl, by rw [List.any_eq_true.mpr ⟨_, HM.out, HQ.out⟩]; simp, by omega, by omega, below_step HB.out HB1.out⟩
  ·have HN := Aside0.mk (show l.any b = false by have := HX.out; rwa [List.take_of_length_le (by omega)] at this)
   go_wp2
   go_ret
   exact ⟨-1, rfl, by rw [HN.out]; rfl, by omega, by omega, HB.out⟩
theorem ContainsFunc_calls (l : List Nd) (b : Nd → Bool) (A : Option Addr) (c : Nat) (w : World) (hK : KidsC w A c l) (hT : TestsKids 92 l b w) :
  Calls Tryz.prog 91 #[.slice A l.length c, .func (.func 92) #[] #[]] w fun e w' => e = .returned (.bool (l.any b)) ∧ Below w.heap.size w w' := by
 have HI := Aside0.mk (IndexFunc_calls l b A c w hK hT)
 clear hK hT
 go_enter Tryz.func91, Tryz.ntmps91
 go_wp2_with (go_at_call 113; (with_reducible refine HI.out.mono ?_); rintro e w1 ⟨i, rfl, hi, _, _, hb⟩; have HB1 := Aside0.mk hb; have HQ := Aside0.mk hi; clear hb hi)
 go_ret
 exact ⟨ret_b (by rw [← HQ.out]), HB1.out⟩
theorem right1_calls (n : Nd) (A : Option Addr) (c : Nat) (b : Bool) (w : World) (h : ∀ W, Below w.heap.size w W → Calls Tryz.prog 54 #[nodeV n A c] W fun e w' => e = .returned (.bool b) ∧ Below W.heap.size W w') :
  Calls Tryz.prog 92 #[nodeV n A c] w fun e w' => e = .returned (.bool (!b)) ∧ Below w.heap.size w w' := by
 have H := Aside0.mk h
 clear h
 go_enter Tryz.func92, Tryz.ntmps92
 go_wp2_with (go_at_call 54; (with_reducible refine (H.out _ (bel1 w _)).mono ?_); rintro e w1 ⟨rfl, hb⟩; have HB1 := Aside0.mk (below_step (bel1 w _) hb); clear hb)
 go_ret
 exact ⟨rfl, HB1.out⟩
def NodeIntOut (n : Nd) (i : Int) (w : World) (e : Ending) (w' : World) : Prop := ∃ A c, e = .returned (.tuple #[nodeV n A c, .int .i64 i]) ∧ KidsF w' w.heap.size A c n.f5 ∧ Below w.heap.size w w'
def farB (r k : Int) : Bool := decide (r < -1048576) || (decide (r > 1048576) || (decide (k < -16384) || decide (k > 16384)))
def shiftN (r k : Int) (n : Nd) : Nd := if checkI n = 0 then (if farB r k = true then zeroN else slideS r k n) else zeroN
def shiftE (r k : Int) (n : Nd) : Int := if checkI n = 0 then (if farB r k = true then 2 else 0) else checkI n
theorem deep_calls (n : Nd) (A : Option Addr) (c : Nat) (w : World) (hK : KidsC w A c n.f5) :
  Calls Tryz.prog 9 #[nodeV n A c] w fun e w' => e = .returned (.bool (depthI n == 0)) ∧ Below w.heap.size w w' := by
 have H := Aside0.mk fun (W : World) (h : Below w.heap.size w W) => Depth_calls n A c W (hK.below h)
 clear hK
 generalize depthI n = d at H ⊢
 go_enter Tryz.func9, Tryz.ntmps9
 go_wp2_with (go_at_call 27; (with_reducible refine (H.out _ (bel1 w _)).mono ?_); rintro e w1 ⟨rfl, hb⟩; have HB1 := Aside0.mk (below_step (bel1 w _) hb); clear hb)
 go_ret
 exact ⟨rfl, HB1.out⟩
theorem far_calls (n m : Int) (w : World) :
  Calls Tryz.prog 31 #[.int .i64 n, .int .i64 m] w fun e w' => e = .returned (.bool (decide (n < wrap64 (-m)) || decide (n > m))) ∧ Below w.heap.size w w' := by
 by_cases h : n < wrap64 (-m)
 ·go_enter Tryz.func31, Tryz.ntmps31
  go_wp2
  all_goals (go_ret; exact ⟨ret_b (by first | (simp_all; done) | (simp_all; omega)), by repeat (first | exact Below.refl _ _ | apply below_alloc | apply below_drew1)⟩)
 ·go_enter Tryz.func31, Tryz.ntmps31
  go_wp2
  all_goals (go_ret; exact ⟨ret_b (by first | (simp_all; done) | (simp_all; omega)), by repeat (first | exact Below.refl _ _ | apply below_alloc | apply below_drew1)⟩)
def levelI (n : Nd) : Int := if n.f0 = 4 then 4 else if n.f0 = 5 then rLN n.f4 else 5
theorem level_calls (n : Nd) (A : Option Addr) (c : Nat) (w : World) : Calls Tryz.prog 130 #[nodeV n A c] w fun e w' => e = .returned (.int .i64 (levelI n)) ∧ Below w.heap.size w w' := by
 unfold levelI
 have HL := Aside0.mk (rLN_eq n.f4)
 generalize rLN n.f4 = ln at HL ⊢
 by_cases h4 : n.f0 = 4
 ·have h4b : (n.f0 == 4) = true := by simp [h4]
  rw [if_pos h4]
  clear h4
  go_enter Tryz.func130, Tryz.ntmps130
  go_wp2
  go_ret
  exact ⟨rfl, bel1 w _⟩
 ·have h4b : (n.f0 == 4) = false := by simp [h4]
  rw [if_neg h4]
  by_cases h5 : n.f0 = 5
  ·have h5b : (n.f0 == 5) = true := by simp [h5]
   rw [if_pos h5]
   clear h4 h5
   go_enter Tryz.func130, Tryz.ntmps130
   go_wp2_with (go_at_call 67; (with_reducible refine (foolscapref08_Line.calls _ _ _ _ HL.out).mono ?_); rintro e w1 ⟨rfl, nd, rfl⟩)
   go_ret
   exact ⟨rfl, pw_below_drewN (bel1 w _) _⟩
  ·have h5b : (n.f0 == 5) = false := by simp [h5]
   rw [if_neg h5]
   clear h4 h5
   go_enter Tryz.func130, Tryz.ntmps130
   go_wp2
   go_ret
   exact ⟨rfl, bel1 w _⟩
def catS (a b : ByteArray) : Option ByteArray := if a.size + b.size ≤ 9223372036854775807 then some (a ++ b) else none
theorem catS_some {a b r : ByteArray} (h : catS a b = some r) : r = a ++ b ∧ a.size + b.size ≤ 9223372036854775807 := by
 unfold catS at h
 split at h
 ·exact ⟨(Option.some.inj h).symm, by assumption⟩
 ·cases h
abbrev TextOut (s : ByteArray) (w : World) (e : Ending) (w' : World) : Prop := e = .returned (.string s) ∧ Below w.heap.size w w'
theorem within_bare (n : Nd) (least : Int) (s : ByteArray) (A : Option Addr) (c : Nat) (w : World) (h : ¬levelI n < least) (HT : Aside0 (∀ W, Below w.heap.size w W → Calls Tryz.prog 84 #[nodeV n A c] W (TextOut s W))) :
  Calls Tryz.prog 110 #[nodeV n A c, .int .i64 least] w (TextOut s w) := by
 have hd : decide (levelI n < least) = false := decide_eq_false h
 have HLv := Aside0.mk fun W => level_calls n A c W
 generalize levelI n = lv at HLv hd
 clear h
 go_enter Tryz.func110, Tryz.ntmps110
 go_wp2_with (first
  | (go_at_call 130; (with_reducible refine (HLv.out _).mono ?_); rintro e w1 ⟨rfl, hb⟩; have HB1 := Aside0.mk (below_step (bel1 w _) hb); have B2 := Aside0.mk (blk_below (newBlk w _) hb); have hc := fun i => blk_cell B2.out i; clear hb)
  | (go_at_call 84; (with_reducible refine (HT.out _ HB1.out).mono ?_); rintro e w2 ⟨rfl, hb⟩; have HB2 := Aside0.mk (below_step HB1.out hb); clear hb))
 go_ret
 exact ⟨rfl, HB2.out⟩
theorem within_wrap (n : Nd) (least : Int) (s : ByteArray) (A : Option Addr) (c : Nat) (w : World) (h : levelI n < least) (hs : s.size ≤ 9223372036854775800) (HT : Aside0 (∀ W, Below w.heap.size w W → Calls Tryz.prog 84 #[nodeV n A c] W (TextOut s W))) :
  Calls Tryz.prog 110 #[nodeV n A c, .int .i64 least] w (TextOut (((⟨#[40]⟩ : ByteArray) ++ s) ++ (⟨#[41]⟩ : ByteArray)) w) := by
 have hd : decide (levelI n < least) = true := decide_eq_true h
 have HLv := Aside0.mk fun W => level_calls n A c W
 generalize levelI n = lv at HLv hd
 have s1 : 1 + s.size ≤ 9223372036854775807 := by omega
 have s2 : ((⟨#[40]⟩ : ByteArray) ++ s).size + 1 ≤ 9223372036854775807 := by rw [ByteArray.size_append]; show 1 + s.size + 1 ≤ _; omega
 have s1a := eq_true s1
 have s2a := eq_true s2
 have s1c : (9223372036854775807 < 1 + s.size) = False := eq_false (by omega)
 have s2c : (9223372036854775807 < ((⟨#[40]⟩ : ByteArray) ++ s).size + 1) = False := eq_false (by omega)
 clear h
 go_enter Tryz.func110, Tryz.ntmps110
 go_wp2_with (first
  | (go_at_call 130; (with_reducible refine (HLv.out _).mono ?_); rintro e w1 ⟨rfl, hb⟩; have HB1 := Aside0.mk (below_step (bel1 w _) hb); have B2 := Aside0.mk (blk_below (newBlk w _) hb); have hc := fun i => blk_cell B2.out i; clear hb)
  | (go_at_call 84; (with_reducible refine (HT.out _ HB1.out).mono ?_); rintro e w2 ⟨rfl, hb⟩; have HB2 := Aside0.mk (below_step HB1.out hb); clear hb))
 go_ret
 exact ⟨rfl, HB2.out⟩
theorem text_value (kf : Nat) (n : Nd) (s : ByteArray) (i : Int) (A : Option Addr) (c : Nat) (w : World) (h1 : n.f0 = 1) (h2 : ¬n.f1.f0 = 2) (HS : Aside0 (foolscapref04_Show.f kf n.f1.f0 n.f1.f1 n.f1.f2 n.f1.f3 n.f1.f4 = some (s, i))) :
  Calls Tryz.prog 84 #[nodeV n A c] w (TextOut s w) := by
 have h1b : (n.f0 == 1) = true := by simp [h1]
 have h2b : (n.f1.f0 == 2) = false := by simp [h2]
 clear h1 h2
 go_enter Tryz.func84, Tryz.ntmps84
 go_wp2_with (first
  | (go_at_call 108; (with_reducible refine (foolscapref04_Show.calls _ _ _ _ _ _ _ _ _ HS.out).mono ?_); rintro e w1 ⟨rfl, hb⟩; have HB1 := Aside0.mk (below_step (bel1 w _) hb); clear hb))
 go_ret
 exact ⟨rfl, HB1.out⟩
theorem text_quoted (kf : Nat) (n : Nd) (s : ByteArray) (A : Option Addr) (c : Nat) (w : World) (h1 : n.f0 = 1) (h2 : n.f1.f0 = 2) (HS : Aside0 (foolscapref08_quoted.f kf n.f1.f2 = some s)) :
  Calls Tryz.prog 84 #[nodeV n A c] w (TextOut s w) := by
 have h1b : (n.f0 == 1) = true := by simp [h1]
 have h2b : (n.f1.f0 == 2) = true := by simp [h2]
 clear h1 h2
 go_enter Tryz.func84, Tryz.ntmps84
 go_wp2_with (first
  | (go_at_call 107; (with_reducible refine (foolscapref08_quoted.calls _ _ _ _ HS.out).mono ?_); rintro e w1 ⟨rfl, nd, rfl⟩))
 go_ret
 exact ⟨rfl, pw_below_drewN (bel1 w _) _⟩
theorem text_cell (kf : Nat) (n : Nd) (s : ByteArray) (i : Int) (A : Option Addr) (c : Nat) (w : World) (h2 : n.f0 = 2) (HS : Aside0 (foolscapref05_Print.f kf n.f2.f0.f0 n.f2.f0.f1 n.f2.f1 n.f2.f2 = some (s, i))) :
  Calls Tryz.prog 84 #[nodeV n A c] w (TextOut s w) := by
 have h1b : (n.f0 == 1) = false := by simp [h2]
 have h2b : (n.f0 == 2) = true := by simp [h2]
 clear h2
 go_enter Tryz.func84, Tryz.ntmps84
 go_wp2_with (first
  | (go_at_call 109; (with_reducible refine (foolscapref05_Print.calls _ _ _ _ _ _ _ _ HS.out).mono ?_); rintro e w1 ⟨rfl, hb⟩; have HB1 := Aside0.mk (below_step (bel1 w _) hb); clear hb))
 go_ret
 exact ⟨rfl, HB1.out⟩
theorem text_range (kf : Nat) (n : Nd) (s t : ByteArray) (i j : Int) (A : Option Addr) (c : Nat) (w : World) (h3 : n.f0 = 3) (HS : Aside0 (foolscapref05_Print.f kf n.f2.f0.f0 n.f2.f0.f1 n.f2.f1 n.f2.f2 = some (s, i))) (HT : Aside0 (foolscapref05_Print.f kf n.f3.f0.f0 n.f3.f0.f1 n.f3.f1 n.f3.f2 = some (t, j)))
  (q1 : s.size + 1 ≤ 9223372036854775807) (q2 : (s ++ (⟨#[58]⟩ : ByteArray)).size + t.size ≤ 9223372036854775807) :
  Calls Tryz.prog 84 #[nodeV n A c] w (TextOut ((s ++ (⟨#[58]⟩ : ByteArray)) ++ t) w) := by
 have h1b : (n.f0 == 1) = false := by simp [h3]
 have h2b : (n.f0 == 2) = false := by simp [h3]
 have h3b : (n.f0 == 3) = true := by simp [h3]
 have q1a := eq_true q1
 have q2a := eq_true q2
 have q1c : (9223372036854775807 < s.size + 1) = False := eq_false (by omega)
 have q2c : (9223372036854775807 < (s ++ (⟨#[58]⟩ : ByteArray)).size + t.size) = False := eq_false (by omega)
 clear h3
 go_enter Tryz.func84, Tryz.ntmps84
 go_wp2_with (first
  | (go_at_call 109; (with_reducible refine (foolscapref05_Print.calls _ _ _ _ _ _ _ _ HS.out).mono ?_); clear HS; rintro e w1 ⟨rfl, hb⟩; have HB1 := Aside0.mk (below_step (bel1 w _) hb); have B1 := Aside0.mk (blk_below (newBlk w _) hb); have hc := fun i => blk_cell B1.out i; clear hb)
  | (go_at_call 109; (with_reducible refine (foolscapref05_Print.calls _ _ _ _ _ _ _ _ HT.out).mono ?_); clear HT; rintro e w2 ⟨rfl, hb⟩; have HB2 := Aside0.mk (below_step HB1.out hb); clear hb))
 go_ret
 exact ⟨rfl, HB2.out⟩
end Go.Proofs.YthnldbclbfpojaaGreatDoor.Pr
end
