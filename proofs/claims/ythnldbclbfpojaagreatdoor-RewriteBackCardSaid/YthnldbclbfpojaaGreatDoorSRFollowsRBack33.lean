/-
  Lemmas for the law RFollowsRBack.
-/
import Derived.Test.YthnldbclbfpojaaGreatDoorSRFollowsRBack13
import Derived.Test.YthnldbclbfpojaaGreatDoorSRFollowsRBack32
import Derived.Test.YthnldbclbfpojaaGreatDoorSRFollowsRBack28
import Derived.Test.YthnldbclbfpojaaGreatDoorSRFollowsRBack24
import Derived.Test.YthnldbclbfpojaaGreatDoorSRFollowsRBack30
import Derived.Test.YthnldbclbfpojaaGreatDoorSRFollowsRBack11
set_option maxHeartbeats 8000000
set_option maxRecDepth 100000
set_option linter.unusedVariables false
set_option linter.unusedSimpArgs false
section
namespace Go.Proofs.YthnldbclbfpojaaGreatDoor.Pr
open Go.RowKit Go.Proofs.YthnldbclbfpojaaGreatDoorW.PrintWords Go.Proofs.YthnldbclbfpojaaGreatDoorW.PrintLast Go.Proofs.YthnldbclbfpojaaGreatDoorW.PrintMore
def rwSides.T0 : Bool × List (List Nat × List Nat) := (true, [([], []), ([0], [0]), ([1], [1]), ([], []), ([3], [3]), ([4], [4]), ([2, 5], [2, 5])])
def rwSides.B0 : List Nat := [0, 1, 3, 0, 8, 24, 63]
theorem rwSides.tab0 : rtab .any (opsOf Tryz.f74 0) = rwSides.T0 := by kernel_rfl
theorem rwSides.bits0 : waitsOk rwSides.T0.2 rwSides.B0 = true := by kernel_rfl
def moving2.T5 : Bool × List (List Nat × List Nat) := (true, [([], []), ([], []), ([], []), ([0, 0], [0]), ([1, 3, 0, 1, 3], [1]), ([2, 4, 0, 1, 2, 3, 4], [2])])
def moving2.B5 : List Nat := [0, 0, 0, 1, 11, 31]
theorem moving2.tab5 : rtab .any (opsOf Tryz.f72 5) = moving2.T5 := by kernel_rfl
theorem moving2.bits5 : waitsOk moving2.T5.2 moving2.B5 = true := by kernel_rfl
theorem sides_calls (x y lo hi : Int) (g j h k : Nat) (cs ds : Array Value) (t u : TypeId) (w : World) (HG : Aside0 (w.heap[g]? = some (.cells cs t (0, 0)))) (HJ : Aside0 (cs[j]? = some (.int .i64 x))) (HH : Aside0 (w.heap[h]? = some (.cells ds u (0, 0)))) (HK : Aside0 (ds[k]? = some (.int .i64 y))) (hgh : g ≠ h) :
  Calls Tryz.prog 74 #[.pointer (some ⟨g, j, none⟩), .pointer (some ⟨h, k, none⟩), .int .i64 lo, .int .i64 hi] w fun e w' => e = .returned (.tuple #[]) ∧ Below w.heap.size ((w.setCell ⟨g, j, none⟩ (.int .i64 (if x ≤ y then lo else hi))).setCell ⟨h, k, none⟩ (.int .i64 (if x ≤ y then hi else lo))) w' := by
 have hhg : h ≠ g := fun e => hgh e.symm
 have HA := Aside0.mk (fun v : Value => blk_cell (blk_far (p := ⟨g, j, none⟩) HH.out hhg v) k)
 have hs1 := (blk_cell HG.out j).trans HJ.out
 have hf1 := blk_frozen HG.out j
 have hs2 := (blk_cell HH.out k).trans HK.out
 have hf2 := blk_frozen HH.out k
 by_cases hxy : x ≤ y
 ·rw [if_pos hxy, if_pos hxy]
  go_enter Tryz.func74, Tryz.ntmps74
  go_wp2
  refine start_ (n := 7) (S := (fun w' => w'.heap[g]? = some (.cells cs t (0, 0)) ∧ w'.heap[h]? = some (.cells ds u (0, 0)))) (ds := []) (Array.replicate 7 false) (by kernel_rfl) rfl rfl ⟨blk_drew HG.out, blk_drew HH.out⟩ (fun hHeld => ?_)
  refine with_tabW rwSides.tab0 rwSides.bits0 (fun HT_ HW_ => ?_)
  refine pz 0 8 HT_ ?_; refine pz 1 9 HT_ ?_; refine pz 3 11 HT_ ?_; refine pz 4 12 HT_ ?_
  refine tz 2 10 HT_ HW_ (hr := (by rintro w' s0; have q1 : w'.cell? ⟨g, j, none⟩ = some (.int .i64 x) := (blk_cell s0.1 j).trans HJ.out; have q2 : w'.cell? ⟨h, k, none⟩ = some (.int .i64 y) := (blk_cell s0.2 k).trans HK.out; go_simp; with_reducible rfl)) (hS := hHeld) (h := ?_)
  refine tz 5 13 HT_ HW_ (hr := (by rintro w' s0; have q1 : w'.cell? ⟨g, j, none⟩ = some (.int .i64 x) := (blk_cell s0.1 j).trans HJ.out; have q2 : w'.cell? ⟨h, k, none⟩ = some (.int .i64 y) := (blk_cell s0.2 k).trans HK.out; go_simp; with_reducible rfl)) (hS := hHeld) (h := ?_)
  refine pz 6 14 HT_ ?_
  refine done_ (done_of HT_.out (by kernel_rfl)) ?_
  go_wp2
  refine bodyPost_ret (results_none rfl _ _ _) rfl ?_
  exact ⟨rfl, below_drew1 (Below.refl _ _)⟩
 ·rw [if_neg hxy, if_neg hxy]
  go_enter Tryz.func74, Tryz.ntmps74
  go_wp2
  refine start_ (n := 7) (S := (fun w' => w'.heap[g]? = some (.cells cs t (0, 0)) ∧ w'.heap[h]? = some (.cells ds u (0, 0)))) (ds := []) (Array.replicate 7 false) (by kernel_rfl) rfl rfl ⟨blk_drew HG.out, blk_drew HH.out⟩ (fun hHeld => ?_)
  refine with_tabW rwSides.tab0 rwSides.bits0 (fun HT_ HW_ => ?_)
  refine pz 0 8 HT_ ?_; refine pz 1 9 HT_ ?_; refine pz 3 11 HT_ ?_; refine pz 4 12 HT_ ?_
  refine tz 2 10 HT_ HW_ (hr := (by rintro w' s0; have q1 : w'.cell? ⟨g, j, none⟩ = some (.int .i64 x) := (blk_cell s0.1 j).trans HJ.out; have q2 : w'.cell? ⟨h, k, none⟩ = some (.int .i64 y) := (blk_cell s0.2 k).trans HK.out; go_simp; with_reducible rfl)) (hS := hHeld) (h := ?_)
  refine tz 5 13 HT_ HW_ (hr := (by rintro w' s0; have q1 : w'.cell? ⟨g, j, none⟩ = some (.int .i64 x) := (blk_cell s0.1 j).trans HJ.out; have q2 : w'.cell? ⟨h, k, none⟩ = some (.int .i64 y) := (blk_cell s0.2 k).trans HK.out; go_simp; with_reducible rfl)) (hS := hHeld) (h := ?_)
  refine pz 6 14 HT_ ?_
  refine done_ (done_of HT_.out (by kernel_rfl)) ?_
  go_wp2
  go_end0
  exact ⟨rfl, below_drew1 (Below.refl _ _)⟩
def movC (a b d : Int) (c : Ce) : Ce := ⟨⟨(spotS a b d c.f0.f0 c.f0.f1).1.1, (spotS a b d c.f0.f0 c.f0.f1).1.2⟩, c.f1, c.f2⟩
def movB (a b d : Int) (c : Ce) : Bool := (spotS a b d c.f0.f0 c.f0.f1).2.1 == 0
theorem moving1_calls (a b d : Int) (c : Ce) (p : Nat) (w : World) (hp : w.heap[p]? = some (.cells (edA a b d) 47 (0, 0))) :
  Calls Tryz.prog 71 #[.agg (cellA c), ptrV p] w fun e w' => e = .returned (.tuple #[.agg (cellA (movC a b d c)), .bool (movB a b d c)]) ∧ Below w.heap.size w w' := by
 have HS := Aside0.mk fun W => spot_calls a b d c.f0.f0 c.f0.f1 W
 unfold movC movB
 generalize spotS a b d c.f0.f0 c.f0.f1 = z at HS ⊢
 obtain ⟨⟨x, y⟩, f, q⟩ := z
 obtain ⟨⟨c0, c1⟩, c2, c3⟩ := c
 simp only at HS ⊢
 have hpe := fun (o1 o2 : Obj) (i : Nat) => blk_cell (blk_alloc (blk_alloc hp o1) o2) i
 have hne : w.heap.size + 1 ≠ w.heap.size := by omega
 clear hp
 go_enter Tryz.func71, Tryz.ntmps71
 go_wp2_with (first
  | (go_at_call 22; (with_reducible refine (HS.out _).mono ?_); rintro e w1 ⟨rfl, hb⟩; have HB1 := Aside0.mk (below_step (bel2 w _ _) hb); have B2 := Aside0.mk (blk_below (blk_alloc (newBlk w _) _) hb); have B3 := Aside0.mk (blk_below (newBlk2 w _ _) hb); clear hb hpe; have hc := fun (o : Obj) (i : Nat) => blk_cell (blk_alloc B2.out o) i; have hf := fun (o : Obj) (i : Nat) => blk_frozen (blk_alloc B2.out o) i)
  | ((with_reducible refine gate_store (t := 30) (p := 3) (v := .tmp 18) rfl ?_); refine wpRowSt rfl 30 (.tmp 3) (.tmp 18) rfl (w.heap.size + 1) #[.int .i64 x, .int .i64 y, .bool c2, .bool c3] rfl rfl 30 _ (blk_far (p := ⟨w.heap.size, 1, none⟩) (blk_far (p := ⟨w.heap.size, 0, none⟩) (blk_alloc B3.out _) hne _) hne _) (by kernel_rfl) rfl rfl ?_))
 refine bodyPost_ret (results_ct rfl _ _ (w.heap.size + 1) 30 #[.int .i64 x, .int .i64 y, .bool c2, .bool c3] (0, 0) _ rfl (setRow_heap _ _ _ _ _ _ (blk_far (p := ⟨w.heap.size, 1, none⟩) (blk_far (p := ⟨w.heap.size, 0, none⟩) (blk_alloc B3.out _) hne _) hne _)) Tryz.underlying30 rfl (by kernel_rfl)) rfl ?_
 exact ⟨rfl, rowBelow (below_set (below_set (below_alloc HB1.out _) (Nat.le_refl _)) (Nat.le_refl _)) (by omega) _⟩
theorem put_below2 {w W : World} {a b : Addr} {v u : Value} (h : Below w.heap.size ((w.setCell a v).setCell b u) W) : Below ((w.setCell a v).setCell b u).heap.size ((w.setCell a v).setCell b u) W := by
 have z : ((w.setCell a v).setCell b u).heap.size = w.heap.size := by simp
 rwa [z]
def ofS (a0 a1 b0 b1 : Int) : Rc := if placeB a0 a1 = true ∧ placeB b0 b1 = true then ⟨mn a0 b0, mn a1 b1, mx a0 b0, mx a1 b1⟩ else ⟨0, 0, 0, 0⟩
theorem placeOf_S (a0 a1 b0 b1 : Int) : ∃ e, place_Of.f a0 a1 b0 b1 = some ((ofS a0 a1 b0 b1).t, (ofS a0 a1 b0 b1).l, (ofS a0 a1 b0 b1).o, (ofS a0 a1 b0 b1).r, e) := by
 unfold place_Of.f ofS
 rw [place_is_B, place_is_B]
 cases placeB a0 a1 <;> cases placeB b0 b1 <;> exact ⟨_, rfl⟩
def movR (a b d : Int) (p q : Ce) : Rc × Bool × Int := rectS a b d (ofS p.f0.f0 p.f0.f1 q.f0.f0 q.f0.f1).t (ofS p.f0.f0 p.f0.f1 q.f0.f0 q.f0.f1).l (ofS p.f0.f0 p.f0.f1 q.f0.f0 q.f0.f1).o (ofS p.f0.f0 p.f0.f1 q.f0.f0 q.f0.f1).r
def movX (a b d : Int) (p q : Ce) : Ce := ⟨⟨if p.f0.f0 ≤ q.f0.f0 then (movR a b d p q).1.t else (movR a b d p q).1.o, if p.f0.f1 ≤ q.f0.f1 then (movR a b d p q).1.l else (movR a b d p q).1.r⟩, p.f1, p.f2⟩
def movY (a b d : Int) (p q : Ce) : Ce := ⟨⟨if p.f0.f0 ≤ q.f0.f0 then (movR a b d p q).1.o else (movR a b d p q).1.t, if p.f0.f1 ≤ q.f0.f1 then (movR a b d p q).1.r else (movR a b d p q).1.l⟩, q.f1, q.f2⟩
theorem moving2_calls (a b d : Int) (c q : Ce) (p : Nat) (w : World) (hp : w.heap[p]? = some (.cells (edA a b d) 47 (0, 0))) :
  Calls Tryz.prog 72 #[.agg (cellA c), .agg (cellA q), ptrV p] w fun e w' => e = .returned (.tuple #[.agg (cellA (movX a b d c q)), .agg (cellA (movY a b d c q)), .bool (movR a b d c q).2.1]) ∧ Below w.heap.size w w' := by
 obtain ⟨q5, hO⟩ := placeOf_S c.f0.f0 c.f0.f1 q.f0.f0 q.f0.f1
 have HO := Aside0.mk hO
 clear hO
 have HR := Aside0.mk fun W => rect_calls a b d (ofS c.f0.f0 c.f0.f1 q.f0.f0 q.f0.f1).t (ofS c.f0.f0 c.f0.f1 q.f0.f0 q.f0.f1).l (ofS c.f0.f0 c.f0.f1 q.f0.f0 q.f0.f1).o (ofS c.f0.f0 c.f0.f1 q.f0.f0 q.f0.f1).r W
 unfold movX movY movR
 generalize ofS c.f0.f0 c.f0.f1 q.f0.f0 q.f0.f1 = o at HO HR ⊢
 obtain ⟨o1, o2, o3, o4⟩ := o
 simp only at HO HR ⊢
 generalize rectS a b d o1 o2 o3 o4 = z at HR ⊢
 obtain ⟨⟨x1, x2, x3, x4⟩, ok, er⟩ := z
 obtain ⟨⟨c0, c1⟩, c2, c3⟩ := c
 obtain ⟨⟨d0, d1⟩, d2, d3⟩ := q
 simp only at HO HR ⊢
 have HP := Aside0.mk hp
 have qp := blk_lt hp
 clear hp
 generalize hva0 : (if c0 ≤ d0 then x1 else x3) = va0
 generalize hvb0 : (if c0 ≤ d0 then x3 else x1) = vb0
 generalize hva1 : (if c1 ≤ d1 then x2 else x4) = va1
 generalize hvb1 : (if c1 ≤ d1 then x4 else x2) = vb1
 have n01 : w.heap.size ≠ w.heap.size + 1 := by omega
 have n10 : w.heap.size + 1 ≠ w.heap.size := by omega
 have n20 : w.heap.size + 2 ≠ w.heap.size := by omega
 have n21 : w.heap.size + 2 ≠ w.heap.size + 1 := by omega
 have n30 : w.heap.size + 3 ≠ w.heap.size := by omega
 have n31 : w.heap.size + 3 ≠ w.heap.size + 1 := by omega
 have HS1 := Aside0.mk fun (W : World) (h1 : W.heap[w.heap.size]? = some (.cells #[.int .i64 c0, .int .i64 c1, .bool c2, .bool c3] 30 (0, 0))) (h2 : W.heap[w.heap.size + 1]? = some (.cells #[.int .i64 d0, .int .i64 d1, .bool d2, .bool d3] 30 (0, 0))) => sides_calls c0 d0 x1 x3 w.heap.size 0 (w.heap.size + 1) 0 _ _ 30 30 W ⟨h1⟩ ⟨rfl⟩ ⟨h2⟩ ⟨rfl⟩ n01
 have HS2 := Aside0.mk fun (W : World) (h1 : W.heap[w.heap.size]? = some (.cells #[.int .i64 va0, .int .i64 c1, .bool c2, .bool c3] 30 (0, 0))) (h2 : W.heap[w.heap.size + 1]? = some (.cells #[.int .i64 vb0, .int .i64 d1, .bool d2, .bool d3] 30 (0, 0))) => sides_calls c1 d1 x2 x4 w.heap.size 1 (w.heap.size + 1) 1 _ _ 30 30 W ⟨h1⟩ ⟨rfl⟩ ⟨h2⟩ ⟨rfl⟩ n01
 rw [hva0, hvb0] at HS1
 rw [hva1, hvb1] at HS2
 clear hva0 hvb0 hva1 hvb1
 go_enter Tryz.func72, Tryz.ntmps72
 go_wp2_with (first
  | (go_at_call 42; (with_reducible refine (place_Of.calls _ _ _ _ _ _ _ _ _ _ HO.out).mono ?_); rintro e w1 ⟨rfl, hb⟩; have HB1 := Aside0.mk (below_step (bel4 w _ _ _ _) hb); have P3 := Aside0.mk (blk_below (newBlk4 w _ _ _ _).1 hb); have P4 := Aside0.mk (blk_below (newBlk4 w _ _ _ _).2.1 hb); have P5 := Aside0.mk (blk_below (newBlk4 w _ _ _ _).2.2.1 hb); have P6 := Aside0.mk (blk_below (newBlk4 w _ _ _ _).2.2.2 hb); clear hb; have he := fun (o : Obj) (i : Nat) => blk_cell (blk_alloc (blk_below HP.out HB1.out) o) i; have hg := blk_lt P6.out)
  | (go_at_call 73; (with_reducible refine (HR.out _).mono ?_); rintro e w2 ⟨rfl, hb⟩; have HB2 := Aside0.mk (below_step (below_alloc HB1.out _) hb); have Q3 := Aside0.mk (blk_below (blk_alloc P3.out _) hb); have Q4 := Aside0.mk (blk_below (blk_alloc P4.out _) hb); have Q5 := Aside0.mk (blk_below (blk_alloc P5.out _) hb); have Q6 := Aside0.mk (blk_below (blk_alloc P6.out _) hb); have Q8 := Aside0.mk (blk_below (newBlk w1 _) hb); clear hb he)
  | ((with_reducible refine gate_store (t := 64) (p := 8) (v := .tmp 24) rfl ?_); refine wpRowSt rfl 64 (.tmp 8) (.tmp 24) rfl (w1.heap.size) (rcA x1 x2 x3 x4) rfl rfl 64 _ Q8.out (by kernel_rfl) rfl rfl ?_; have he := fun i => blk_cell (setRow_heap _ _ _ (rcA x1 x2 x3 x4) _ _ Q8.out) i)
  | (go_at_call 74; (with_reducible refine (HS1.out _ (rowOther (rcA x1 x2 x3 x4) Q3.out (g := w1.heap.size) (by omega)) (rowOther (rcA x1 x2 x3 x4) Q4.out (g := w1.heap.size) (by omega))).mono ?_); clear HS1; rintro e w3 ⟨rfl, hb⟩; have hbp := put_below2 hb; have HB3 := Aside0.mk (below_step (below_set (below_set (rowBelow HB2.out (show w.heap.size ≤ w1.heap.size by omega) (rcA x1 x2 x3 x4)) (Nat.le_refl _)) (Nat.le_succ _)) hbp); have R3 := Aside0.mk (blk_below (blk_far (p := ⟨w.heap.size + 1, 0, none⟩) (blk_put (rowOther (rcA x1 x2 x3 x4) Q3.out (g := w1.heap.size) (by omega)) 0 _ (cs' := #[.int .i64 va0, .int .i64 c1, .bool c2, .bool c3]) rfl) n01 _) hbp); have R4 := Aside0.mk (blk_below (blk_put (blk_far (p := ⟨w.heap.size, 0, none⟩) (rowOther (rcA x1 x2 x3 x4) Q4.out (g := w1.heap.size) (by omega)) n10 _) 0 _ (cs' := #[.int .i64 vb0, .int .i64 d1, .bool d2, .bool d3]) rfl) hbp); have R5 := Aside0.mk (blk_below (blk_far (p := ⟨w.heap.size + 1, 0, none⟩) (blk_far (p := ⟨w.heap.size, 0, none⟩) (rowOther (rcA x1 x2 x3 x4) Q5.out (g := w1.heap.size) (by omega)) n20 _) n21 _) hbp); have R6 := Aside0.mk (blk_below (blk_far (p := ⟨w.heap.size + 1, 0, none⟩) (blk_far (p := ⟨w.heap.size, 0, none⟩) (rowOther (rcA x1 x2 x3 x4) Q6.out (g := w1.heap.size) (by omega)) n30 _) n31 _) hbp); have R8 := Aside0.mk (blk_below (blk_far (p := ⟨w.heap.size + 1, 0, none⟩) (blk_far (p := ⟨w.heap.size, 0, none⟩) (setRow_heap _ _ _ (rcA x1 x2 x3 x4) _ _ Q8.out) (show w1.heap.size ≠ w.heap.size by omega) _) (show w1.heap.size ≠ w.heap.size + 1 by omega) _) hbp); clear hb hbp he; have he := fun i => blk_cell R8.out i)
  | (go_at_call 74; (with_reducible refine (HS2.out _ R3.out R4.out).mono ?_); clear HS2; rintro e w4 ⟨rfl, hb⟩; have hbp := put_below2 hb; have HB4 := Aside0.mk (below_step (below_set (below_set HB3.out (Nat.le_refl _)) (Nat.le_succ _)) hbp); have T3 := Aside0.mk (blk_below (blk_far (p := ⟨w.heap.size + 1, 1, none⟩) (blk_put R3.out 1 _ (cs' := #[.int .i64 va0, .int .i64 va1, .bool c2, .bool c3]) rfl) n01 _) hbp); have T4 := Aside0.mk (blk_below (blk_put (blk_far (p := ⟨w.heap.size, 1, none⟩) R4.out n10 _) 1 _ (cs' := #[.int .i64 vb0, .int .i64 vb1, .bool d2, .bool d3]) rfl) hbp); have T5 := Aside0.mk (blk_below (blk_far (p := ⟨w.heap.size + 1, 1, none⟩) (blk_far (p := ⟨w.heap.size, 1, none⟩) R5.out n20 _) n21 _) hbp); have T6 := Aside0.mk (blk_below (blk_far (p := ⟨w.heap.size + 1, 1, none⟩) (blk_far (p := ⟨w.heap.size, 1, none⟩) R6.out n30 _) n31 _) hbp); clear hb hbp he))
 have E3 := Aside0.mk (blk_drew T3.out)
 have E4 := Aside0.mk (blk_drew T4.out)
 have E5 := Aside0.mk (blk_drew T5.out)
 have E6 := Aside0.mk (blk_drew T6.out)
 refine start_ (n := 6) (S := (fun w' => w'.heap[w.heap.size]? = some (.cells #[.int .i64 va0, .int .i64 va1, .bool c2, .bool c3] 30 (0, 0)) ∧ w'.heap[w.heap.size + 1]? = some (.cells #[.int .i64 vb0, .int .i64 vb1, .bool d2, .bool d3] 30 (0, 0)))) (ds := []) (Array.replicate 6 false) (by kernel_rfl) rfl rfl ⟨E3.out, E4.out⟩ (fun hHeld => ?_)
 refine with_tabW moving2.tab5 moving2.bits5 (fun HT_ HW_ => ?_)
 refine pz 2 47 HT_ ?_
 refine tz 0 45 HT_ HW_ (hr := (by rintro w' s0; have q1 := fun i => blk_cell s0.1 i; have q2 := fun i => blk_cell s0.2 i; go_simp; with_reducible rfl)) (hS := hHeld) (h := ?_)
 refine tz 1 46 HT_ HW_ (hr := (by rintro w' s0; have q1 := fun i => blk_cell s0.1 i; have q2 := fun i => blk_cell s0.2 i; go_simp; with_reducible rfl)) (hS := hHeld) (h := ?_)
 refine oneI 3 none HT_ rfl rfl (by kernel_rfl) (by decide) (fun K hK => ?_)
 refine skip_ (by rfl) rfl (rowSkip (ty := 30) (x := .tmp 5) (y := .tmp 45) (g := w.heap.size + 2) (cs := #[.int .i64 va0, .int .i64 va1, .bool c2, .bool c3]) rfl rfl rfl E5.out (by kernel_rfl) rfl rfl) ?_
 refine hK.out _ _ ⟨rowOther _ E3.out (g := w.heap.size + 2) (by omega), rowOther _ E4.out (g := w.heap.size + 2) (by omega)⟩ (fun hHeld => ?_)
 clear hK K
 -- norm_
 refine oneI 4 none HT_ rfl rfl (by kernel_rfl) (by decide) (fun K hK => ?_)
 refine skip_ (by rfl) rfl (rowSkip (ty := 30) (x := .tmp 6) (y := .tmp 46) (g := w.heap.size + 3) (cs := #[.int .i64 vb0, .int .i64 vb1, .bool d2, .bool d3]) rfl rfl rfl (rowOther #[.int .i64 va0, .int .i64 va1, .bool c2, .bool c3] E6.out (g := w.heap.size + 2) (by omega)) (by kernel_rfl) rfl rfl) ?_
 refine hK.out _ _ ⟨rowOther _ (rowOther _ E3.out (g := w.heap.size + 2) (by omega)) (g := w.heap.size + 3) (by omega), rowOther _ (rowOther _ E4.out (g := w.heap.size + 2) (by omega)) (g := w.heap.size + 3) (by omega)⟩ (fun hHeld => ?_)
 clear hK K
 -- norm_
 refine pz 5 7 HT_ ?_
 refine done_ (done_of HT_.out (by kernel_rfl)) ?_
 go_wp2
 refine bodyPost_ret (results_cct rfl _ _ (w.heap.size + 2) (w.heap.size + 3) 30 30 #[.int .i64 va0, .int .i64 va1, .bool c2, .bool c3] #[.int .i64 vb0, .int .i64 vb1, .bool d2, .bool d3] (0, 0) (0, 0) _ _ rfl (rowOther #[.int .i64 vb0, .int .i64 vb1, .bool d2, .bool d3] (setRow_heap _ _ _ #[.int .i64 va0, .int .i64 va1, .bool c2, .bool c3] _ _ E5.out) (g := w.heap.size + 3) (by omega)) Tryz.underlying30 rfl (by kernel_rfl) rfl (setRow_heap _ _ _ #[.int .i64 vb0, .int .i64 vb1, .bool d2, .bool d3] _ _ (rowOther #[.int .i64 va0, .int .i64 va1, .bool c2, .bool c3] E6.out (g := w.heap.size + 2) (by omega))) Tryz.underlying30 rfl (by kernel_rfl)) rfl ?_
 exact ⟨rfl, rowBelow (rowBelow (below_drew1 HB4.out) (by omega) _) (by omega) _⟩
theorem moving_calls (a b d : Int) (w : World) :
  Calls Tryz.prog 38 #[.agg (edA a b d)] w fun e w' => e = .returned (wayV2 (ptrV w.heap.size)) ∧ w'.heap[w.heap.size]? = some (.cells (edA a b d) 47 (0, 0)) ∧ Below w.heap.size w w' := by
 go_enter Tryz.func38, Tryz.ntmps38
 go_wp2
 refine bodyPost_ret (results_cell_row rfl _ _ (w.heap.size + 1) 76 _ (0, 0) _ rfl (newBlk2 w _ _) Tryz.underlying76 rfl (by kernel_rfl)) rfl ?_
 exact ⟨rfl, blk_alloc (newBlk w _) _, bel2 w _ _⟩
abbrev Tk := S127
abbrev TokC (w : World) (A : Option Addr) (c : Nat) (l : List Tk) : Prop := l.length ≤ c ∧ Kd.C k127 w A l.length l
theorem TokC.below {w w1 : World} {A : Option Addr} {c : Nat} {l : List Tk} (h : TokC w A c l) (hb : Below w.heap.size w w1) : TokC w1 A c l := ⟨h.1, Kd.C_below h.2 hb⟩
abbrev KidsP (W : World) (P : Nat → Prop) (A : Option Addr) (c : Nat) (l : List Nd) : Prop := l.length ≤ c ∧ Kd.F k33 W P A l.length l
theorem KidsP.below {W W1 : World} {P : Nat → Prop} {A : Option Addr} {c : Nat} {l : List Nd} (h : KidsP W P A c l) (hb : Below W.heap.size W W1) : KidsP W1 P A c l := ⟨h.1, Kd.F_below h.2 hb⟩
theorem KidsP.mono {W : World} {P Q : Nat → Prop} {A : Option Addr} {c : Nat} {l : List Nd} (h : KidsP W P A c l) (hb : ∀ k, P k → Q k) : KidsP W Q A c l := ⟨h.1, Kd.F_mono h.2 hb⟩
theorem KidsP.row {W : World} {P : Nat → Prop} {A : Option Addr} {c : Nat} {l : List Nd} (h : KidsP W P A c l) (g : Nat) (cs : Array Value) (hg : ∀ k, P k → k ≠ g) : KidsP (W.setRow g cs) P A c l := ⟨h.1, Kd.F_mono (Kd.F_step (ok := P) h.2 (fun z hz _ => setRow_other _ _ z _ (hg z hz))) (fun _ h => h)⟩
theorem KidsP.bnd {W : World} {P : Nat → Prop} {A : Option Addr} {c : Nat} {l : List Nd} (h : KidsP W P A c l) : KidsP W (fun k => P k ∧ k < W.heap.size) A c l := ⟨h.1, Kd.F_bound h.2⟩
theorem size_setRow (w : World) (g : Nat) (cs : Array Value) : (w.setRow g cs).heap.size = w.heap.size := by simp [World.setRow]
theorem kids_lit1 {W : World} {P : Nat → Prop} {A : Option Addr} {c g : Nat} (x : Nd) {t : TypeId} (hg : W.heap[g]? = some (.cells (nodeA x A c) t (0, 0))) (hP : P g) (h : KidsP W P A c x.f5) : KidsP W P (some ⟨g, 0, none⟩) 1 [x] := by
 refine ⟨Nat.le_refl _, fun W' hW => ⟨rfl, by simp, fun _ => ⟨⟨g, 0, none⟩, rfl, fun j p hj => ?_⟩⟩⟩
 match j, hj with
 | 0, hj =>
  obtain rfl : x = p := by simpa using hj
  refine ⟨(nodeA x A c).toList, rfl, k33_mk W' x h.1 (h.2 W' hW), fun i u hu => ?_⟩
  have hb : W'.heap[g]? = some (.cells (nodeA x A c) t (0, 0)) := (hW g hP (blk_lt hg)).trans hg
  have := blk_cell hb i
  rw [show (⟨g, 0, none⟩ : Addr).add (0 * k33.sz + i) = ⟨g, i, none⟩ by simp [Addr.add]; try (intro e; omega)]
  rw [this, ← Array.getElem?_toList]
  exact hu
 | k + 1, hj => simp at hj
abbrev nodeL (n : Nd) (A : Option Addr) (c : Nat) : List Value := [.int .i64 n.f0, .int .i64 n.f1.f0, .int .i64 n.f1.f1, .string n.f1.f2, .bool n.f1.f3, .int .i64 n.f1.f4, .int .i64 n.f2.f0.f0, .int .i64 n.f2.f0.f1, .bool n.f2.f1, .bool n.f2.f2, .int .i64 n.f3.f0.f0, .int .i64 n.f3.f0.f1, .bool n.f3.f1, .bool n.f3.f2, .string n.f4, .slice A n.f5.length c]
theorem kids_lit2 {W : World} {P : Nat → Prop} {A B : Option Addr} {c d g : Nat} (x y : Nd) {t : TypeId} {cs : Array Value} (hcs : cs.toList = nodeL x A c ++ nodeL y B d) (hg : W.heap[g]? = some (.cells cs t (0, 0))) (hP : P g) (h : KidsP W P A c x.f5) (h2 : KidsP W P B d y.f5) : KidsP W P (some ⟨g, 0, none⟩) 2 [x, y] := by
 refine ⟨Nat.le_refl _, fun W' hW => ⟨rfl, by simp, fun _ => ⟨⟨g, 0, none⟩, rfl, fun j p hj => ?_⟩⟩⟩
 have hb : W'.heap[g]? = some (.cells cs t (0, 0)) := (hW g hP (blk_lt hg)).trans hg
 have hc := fun i => blk_cell hb i
 have hsz : k33.sz = 16 := rfl
 match j, hj with
 | 0, hj =>
  obtain rfl : x = p := by simpa using hj
  refine ⟨nodeL x A c, rfl, k33_mk W' x h.1 (h.2 W' hW), fun i u hu => ?_⟩
  have hi : i < 16 := by
   rcases Nat.lt_or_ge i 16 with q | q
   ·exact q
   ·rw [List.getElem?_eq_none (by simpa using q)] at hu; cases hu
  rw [show (⟨g, 0, none⟩ : Addr).add (0 * k33.sz + i) = ⟨g, i, none⟩ by (simp [Addr.add]; try (intro e; omega)), hc, ← Array.getElem?_toList, hcs, List.getElem?_append_left (by simpa using hi)]
  exact hu
 | 1, hj =>
  obtain rfl : y = p := by simpa using hj
  refine ⟨nodeL y B d, rfl, k33_mk W' y h2.1 (h2.2 W' hW), fun i u hu => ?_⟩
  rw [show (⟨g, 0, none⟩ : Addr).add (1 * k33.sz + i) = ⟨g, 16 + i, none⟩ by (simp [Addr.add, hsz]; try (intro e; omega)), hc, ← Array.getElem?_toList, hcs, List.getElem?_append_right (by simp)]
  simpa using hu
 | k + 2, hj => simp at hj
structure Rd where
 n : Nd
 i : Int
 bad : Bool
abbrev rdA (n : Nd) (A : Option Addr) (c : Nat) (i : Int) (b : Bool) : Array Value := #[.int .i64 n.f0, .int .i64 n.f1.f0, .int .i64 n.f1.f1, .string n.f1.f2, .bool n.f1.f3, .int .i64 n.f1.f4, .int .i64 n.f2.f0.f0, .int .i64 n.f2.f0.f1, .bool n.f2.f1, .bool n.f2.f2, .int .i64 n.f3.f0.f0, .int .i64 n.f3.f0.f1, .bool n.f3.f1, .bool n.f3.f2, .string n.f4, .slice A n.f5.length c, .int .i64 i, .bool b]
def tokS (l : List Tk) (i : Int) : Option Tk := if 0 ≤ i ∧ i < (l.length : Int) then some (rd_T127 l i) else none
def isS (l : List Tk) (i : Int) (s : List UInt8) : Option Bool := foolscapref08_is.f l i ⟨s.toArray⟩
mutual
def readS : Nat → List Tk → Int → Int → Option Rd
 | 0, _, _, _ => none
 | k + 1, l, i, line =>
  if line = 5 then singleS k l i
  else if line = 4 then (isS l i [45]).bind fun b =>
   if b = true then (readS k l (wrap64 (i + 1)) 4).bind fun r => some ⟨⟨4, zeroV, zeroC, zeroC, ⟨#[]⟩, [r.n]⟩, r.i, r.bad⟩
   else readS k l i 5
  else (readS k l i (wrap64 (line + 1))).bind fun r => loopS k l line r
def loopS : Nat → List Tk → Int → Rd → Option Rd
 | 0, _, _, _ => none
 | k + 1, l, line, r =>
  if r.bad = true then some r
  else (tokS l r.i).bind fun t =>
   if t.f0 = 4 then
    if rLN t.f3 = line then (readS k l (wrap64 (r.i + 1)) (wrap64 (line + 1))).bind fun q =>
     if q.bad = true then some q
     else loopS k l line ⟨⟨5, zeroV, zeroC, zeroC, t.f3, [r.n, q.n]⟩, q.i, false⟩
    else some r
   else some r
def singleS : Nat → List Tk → Int → Option Rd
 | 0, _, _ => none
 | k + 1, l, i => (tokS l i).bind fun t =>
  if t.f0 = 1 then some ⟨⟨1, t.f1, zeroC, zeroC, ⟨#[]⟩, []⟩, wrap64 (i + 1), false⟩
  else if t.f0 = 2 then (isS l (wrap64 (i + 1)) [58]).bind fun b =>
   if b = true then (tokS l (wrap64 (i + 2))).bind fun u =>
    if u.f0 = 2 then some ⟨⟨3, zeroV, t.f2, u.f2, ⟨#[]⟩, []⟩, wrap64 (i + 3), false⟩ else some ⟨zeroN, wrap64 (i + 2), true⟩
   else some ⟨⟨2, zeroV, t.f2, zeroC, ⟨#[]⟩, []⟩, wrap64 (i + 1), false⟩
  else if t.f0 = 3 then (listS k l (wrap64 (i + 2))).bind fun p => some ⟨⟨6, zeroV, zeroC, zeroC, t.f3, p.1⟩, p.2.i, p.2.bad⟩
  else (isS l i [40]).bind fun b =>
   if b = true then (readS k l (wrap64 (i + 1)) 0).bind fun r =>
    if r.bad = true then some r
    else (isS l r.i [41]).bind fun e => if e = true then some ⟨r.n, wrap64 (r.i + 1), false⟩ else some ⟨zeroN, r.i, true⟩
   else some ⟨zeroN, i, true⟩
def listS : Nat → List Tk → Int → Option (List Nd × Rd)
 | 0, _, _ => none
 | k + 1, l, i => (isS l i [41]).bind fun b => if b = true then some ([], ⟨zeroN, wrap64 (i + 1), false⟩) else listL k l i []
def listL : Nat → List Tk → Int → List Nd → Option (List Nd × Rd)
 | 0, _, _, _ => none
 | k + 1, l, i, out => (readS k l i 0).bind fun r =>
  if r.bad = true then some ([], r)
  else if 4096 ≤ out.length then none
  else (isS l r.i [41]).bind fun b =>
   if b = true then some (out ++ [r.n], ⟨zeroN, wrap64 (r.i + 1), false⟩)
   else (isS l r.i [44]).bind fun c => if c = true then listL k l (wrap64 (r.i + 1)) (out ++ [r.n]) else some ([], ⟨zeroN, r.i, true⟩)
end
def ReadOut (r : Rd) (w : World) (e : Ending) (w' : World) : Prop := ∃ A c, e = .returned (.agg (rdA r.n A c r.i r.bad)) ∧ KidsF w' w.heap.size A c r.n.f5 ∧ Below w.heap.size w w'
def ListOut (l : List Nd) (r : Rd) (w : World) (e : Ending) (w' : World) : Prop := ∃ A c B d, e = .returned (.tuple #[.slice A l.length c, .agg (rdA r.n B d r.i r.bad)]) ∧ KidsF w' w.heap.size A c l ∧ KidsF w' w.heap.size B d r.n.f5 ∧ Below w.heap.size w w'
def ReadLaw (k : Nat) : Prop := ∀ (l : List Tk) (i line : Int) (R : Rd) (A : Option Addr) (c : Nat) (w : World), TokC w A c l → readS k l i line = some R → Calls Tryz.prog 82 #[.slice A l.length c, .int .i64 i, .int .i64 line] w (ReadOut R w)
def SingleLaw (k : Nat) : Prop := ∀ (l : List Tk) (i : Int) (R : Rd) (A : Option Addr) (c : Nat) (w : World), TokC w A c l → singleS k l i = some R → Calls Tryz.prog 105 #[.slice A l.length c, .int .i64 i] w (ReadOut R w)
def ListLaw (k : Nat) : Prop := ∀ (l : List Tk) (i : Int) (L : List Nd) (R : Rd) (A : Option Addr) (c : Nat) (w : World), TokC w A c l → listS k l i = some (L, R) → Calls Tryz.prog 125 #[.slice A l.length c, .int .i64 i] w (ListOut L R w)
theorem read_five (l : List Tk) (i : Int) (R : Rd) (A : Option Addr) (c : Nat) (w : World) (HS : Aside0 (∀ W, Below w.heap.size w W → Calls Tryz.prog 105 #[.slice A l.length c, .int .i64 i] W (ReadOut R W))) :
  Calls Tryz.prog 82 #[.slice A l.length c, .int .i64 i, .int .i64 5] w (ReadOut R w) := by
 go_enter Tryz.func82, Tryz.ntmps82
 go_wp2_with (first
  | (go_at_call 105; (with_reducible refine (HS.out _ (bel1 w _)).mono ?_); rintro e w1 ⟨A2, c2, rfl, hF, hb⟩; have HF := Aside0.mk hF; have HB1 := Aside0.mk (below_step (bel1 w _) hb); have B6 := Aside0.mk (blk_below (newBlk w _) hb); clear hb hF)
  | ((with_reducible refine gate_store (t := 123) (p := 6) (v := .tmp 15) rfl ?_); refine wpRowSt rfl 123 (.tmp 6) (.tmp 15) rfl (w.heap.size) (rdA R.n A2 c2 R.i R.bad) rfl rfl 123 _ (B6.out) (by kernel_rfl) rfl rfl ?_))
 refine bodyPost_ret (results_cell_row rfl _ _ (w.heap.size) 123 (rdA R.n A2 c2 R.i R.bad) (0, 0) _ rfl (setRow_heap _ _ _ _ _ _ (B6.out)) Tryz.underlying123 rfl (by kernel_rfl)) rfl ?_
 exact ⟨A2, c2, rfl, KidsP.mono (KidsP.row HF.out _ _ (fun k hk => by simp at hk; omega)) (fun k hk => by simp at hk; omega), rowBelow HB1.out (Nat.le_refl _) _⟩
theorem read_plus (l : List Tk) (i : Int) (R : Rd) (A : Option Addr) (c : Nat) (w : World) (HT : Aside0 (TokC w A c l)) (HI : Aside0 (foolscapref08_is.f l i ⟨#[45]⟩ = some false)) (HS : Aside0 (∀ W, Below w.heap.size w W → Calls Tryz.prog 82 #[.slice A l.length c, .int .i64 i, .int .i64 5] W (ReadOut R W))) :
  Calls Tryz.prog 82 #[.slice A l.length c, .int .i64 i, .int .i64 4] w (ReadOut R w) := by
 go_enter Tryz.func82, Tryz.ntmps82
 go_wp2_with (first
  | (go_at_call 106; (with_reducible refine (foolscapref08_is.calls _ _ _ _ _ _ _ (HT.out.below (bel1 w _)).2 HT.out.1 HI.out).mono ?_); rintro e w1 ⟨rfl, nd, rfl⟩)
  | (go_at_call 82; (with_reducible refine (HS.out _ (pw_below_drewN (bel1 w _) _)).mono ?_); rintro e w2 ⟨A2, c2, rfl, hF, hb⟩; have HF := Aside0.mk hF; have HB1 := Aside0.mk (below_step (pw_below_drewN (bel1 w _) _) hb); have B6 := Aside0.mk (blk_below (blk_drewN (newBlk w _) _) hb); clear hb hF)
  | ((with_reducible refine gate_store (t := 123) (p := 6) (v := .tmp 24) rfl ?_); refine wpRowSt rfl 123 (.tmp 6) (.tmp 24) rfl (w.heap.size) (rdA R.n A2 c2 R.i R.bad) rfl rfl 123 _ (B6.out) (by kernel_rfl) rfl rfl ?_))
 refine bodyPost_ret (results_cell_row rfl _ _ (w.heap.size) 123 (rdA R.n A2 c2 R.i R.bad) (0, 0) _ rfl (setRow_heap _ _ _ _ _ _ (B6.out)) Tryz.underlying123 rfl (by kernel_rfl)) rfl ?_
 exact ⟨A2, c2, rfl, KidsP.mono (KidsP.row HF.out _ _ (fun k hk => by simp at hk; omega)) (fun k hk => by simp at hk; omega), rowBelow HB1.out (Nat.le_refl _) _⟩
theorem read_minus (l : List Tk) (i : Int) (R : Rd) (A : Option Addr) (c : Nat) (w : World) (HT : Aside0 (TokC w A c l)) (HI : Aside0 (foolscapref08_is.f l i ⟨#[45]⟩ = some true)) (HS : Aside0 (∀ W, Below w.heap.size w W → Calls Tryz.prog 82 #[.slice A l.length c, .int .i64 (wrap64 (i + 1)), .int .i64 4] W (ReadOut R W))) :
  Calls Tryz.prog 82 #[.slice A l.length c, .int .i64 i, .int .i64 4] w (ReadOut ⟨⟨4, zeroV, zeroC, zeroC, ⟨#[]⟩, [R.n]⟩, R.i, R.bad⟩ w) := by
 go_enter Tryz.func82, Tryz.ntmps82
 go_wp2_with (first
  | (go_at_call 106; (with_reducible refine (foolscapref08_is.calls _ _ _ _ _ _ _ (HT.out.below (bel1 w _)).2 HT.out.1 HI.out).mono ?_); rintro e w1 ⟨rfl, nd, rfl⟩)
  | (go_at_call 82; (with_reducible refine (HS.out _ (pw_below_drewN (bel1 w _) _)).mono ?_); rintro e w2 ⟨A2, c2, rfl, hF, hb⟩; have HF := Aside0.mk (KidsP.bnd hF); have HB1 := Aside0.mk (below_step (pw_below_drewN (bel1 w _) _) hb); have B6 := Aside0.mk (blk_below (blk_drewN (newBlk w _) _) hb); have hg := blk_lt B6.out; clear hb hF)
  | ((with_reducible refine gate_store (t := 123) (p := 7) (v := .tmp 28) rfl ?_); refine wpRowSt rfl 123 (.tmp 7) (.tmp 28) rfl (w2.heap.size) (rdA R.n A2 c2 R.i R.bad) rfl rfl 123 _ (newBlk w2 _) (by kernel_rfl) rfl rfl ?_; have hV : ((w2.alloc (.cells Z18 123)).setRow w2.heap.size (rdA R.n A2 c2 R.i R.bad)).heap.size = w2.heap.size + 1 := (size_setRow _ _ _).trans (by simp); have H7 := Aside0.mk (setRow_heap _ _ _ (rdA R.n A2 c2 R.i R.bad) _ _ (newBlk w2 (.cells Z18 123))); have hc7 := fun i => blk_cell H7.out i)
  | ((with_reducible refine gate_dst (N := 30) rfl ?_); refine wpPartLd 30 rfl rfl 33 (.tmp 29) rfl (w2.heap.size) rfl _ (nodeA R.n A2 c2) [.int .i64 R.i, .bool R.bad] (H7.out) rfl Tryz.underlying33 rfl (by kernel_rfl) ?_)
  | ((with_reducible refine gate_store (t := 33) (p := 33) (v := .tmp 32) rfl ?_); refine wpPartSt rfl 33 (.tmp 33) (.tmp 32) rfl (w2.heap.size) (nodeA ⟨4, zeroV, zeroC, zeroC, ⟨#[]⟩, [R.n]⟩ (some ⟨w2.heap.size + 1, 0, none⟩) 1) #[.int .i64 4, .int .i64 0, .int .i64 0, .string ⟨#[]⟩, .bool false, .int .i64 0, .int .i64 0, .int .i64 0, .bool false, .bool false, .int .i64 0, .int .i64 0, .bool false, .bool false, .string ⟨#[]⟩, .slice (some ⟨w2.heap.size + 1, 0, none⟩) 1 1, .int .i64 R.i, .bool R.bad] rfl rfl 123 _ (blk_alloc H7.out _) (by kernel_rfl) (show 16 ≤ 18 by omega) rfl rfl ?_; have hc8 := fun i => blk_cell (setRow_heap _ _ _ #[.int .i64 4, .int .i64 0, .int .i64 0, .string ⟨#[]⟩, .bool false, .int .i64 0, .int .i64 0, .int .i64 0, .bool false, .bool false, .int .i64 0, .int .i64 0, .bool false, .bool false, .string ⟨#[]⟩, .slice (some ⟨w2.heap.size + 1, 0, none⟩) 1 1, .int .i64 R.i, .bool R.bad] _ _ (blk_alloc H7.out (.cells (nodeA R.n A2 c2) 33))) i; have h8 := newBlk ((w2.alloc (.cells Z18 123)).setRow w2.heap.size (rdA R.n A2 c2 R.i R.bad)) (.cells (nodeA R.n A2 c2) 33); rw [hV] at h8; have H8 := Aside0.mk h8; clear h8)
  | ((with_reducible refine gate_dst (N := 34) rfl ?_); refine wpPartLd 34 rfl rfl 123 (.tmp 7) rfl (w2.heap.size) rfl _ #[.int .i64 4, .int .i64 0, .int .i64 0, .string ⟨#[]⟩, .bool false, .int .i64 0, .int .i64 0, .int .i64 0, .bool false, .bool false, .int .i64 0, .int .i64 0, .bool false, .bool false, .string ⟨#[]⟩, .slice (some ⟨w2.heap.size + 1, 0, none⟩) 1 1, .int .i64 R.i, .bool R.bad] [] (setRow_heap _ _ _ #[.int .i64 4, .int .i64 0, .int .i64 0, .string ⟨#[]⟩, .bool false, .int .i64 0, .int .i64 0, .int .i64 0, .bool false, .bool false, .int .i64 0, .int .i64 0, .bool false, .bool false, .string ⟨#[]⟩, .slice (some ⟨w2.heap.size + 1, 0, none⟩) 1 1, .int .i64 R.i, .bool R.bad] _ _ (blk_alloc H7.out _)) rfl Tryz.underlying123 rfl (by kernel_rfl) ?_)
  | ((with_reducible refine gate_store (t := 123) (p := 6) (v := .tmp 34) rfl ?_); refine wpRowSt rfl 123 (.tmp 6) (.tmp 34) rfl (w.heap.size) #[.int .i64 4, .int .i64 0, .int .i64 0, .string ⟨#[]⟩, .bool false, .int .i64 0, .int .i64 0, .int .i64 0, .bool false, .bool false, .int .i64 0, .int .i64 0, .bool false, .bool false, .string ⟨#[]⟩, .slice (some ⟨w2.heap.size + 1, 0, none⟩) 1 1, .int .i64 R.i, .bool R.bad] rfl rfl 123 _ (rowOther _ (blk_alloc (rowOther _ (blk_alloc B6.out _) (g := w2.heap.size) (by omega)) _) (g := w2.heap.size) (by omega)) (by kernel_rfl) rfl rfl ?_))
 refine bodyPost_ret (results_cell_row rfl _ _ (w.heap.size) 123 #[.int .i64 4, .int .i64 0, .int .i64 0, .string ⟨#[]⟩, .bool false, .int .i64 0, .int .i64 0, .int .i64 0, .bool false, .bool false, .int .i64 0, .int .i64 0, .bool false, .bool false, .string ⟨#[]⟩, .slice (some ⟨w2.heap.size + 1, 0, none⟩) 1 1, .int .i64 R.i, .bool R.bad] (0, 0) _ rfl (setRow_heap _ _ _ _ _ _ (rowOther _ (blk_alloc (rowOther _ (blk_alloc B6.out _) (g := w2.heap.size) (by omega)) _) (g := w2.heap.size) (by omega))) Tryz.underlying123 rfl (by kernel_rfl)) rfl ?_
 exact ⟨some ⟨w2.heap.size + 1, 0, none⟩, 1, rfl, kids_lit1 R.n (rowOther _ (rowOther _ H8.out (g := w2.heap.size) (by omega)) (g := w.heap.size) (by omega)) (by show w.heap.size ≤ _; omega) (KidsP.mono (KidsP.row (KidsP.row (KidsP.below HF.out (below_alloc (rowBelow (bel1 w2 _) (Nat.le_refl _) _) _)) _ _ (fun k hk => by have := hk.2; omega)) _ _ (fun k hk => by have := hk.1; simp at this; omega)) (fun k hk => by have := hk.1; simp at this; omega)), rowBelow (rowBelow (below_alloc (rowBelow (below_alloc HB1.out _) (by omega) _) _) (by omega) _) (Nat.le_refl _) _⟩
theorem read_line (k : Nat) (l : List Tk) (i0 line : Int) (r1 R : Rd) (A : Option Addr) (c : Nat) (w : World) (HT : Aside0 (TokC w A c l)) (h5 : ¬line = 5) (h4 : ¬line = 4) (HS : Aside0 (∀ W, Below w.heap.size w W → Calls Tryz.prog 82 #[.slice A l.length c, .int .i64 i0, .int .i64 (wrap64 (line + 1))] W (ReadOut r1 W)))
  (HQ : Aside0 (∀ (j : Int) (q : Rd) (m : Nat) (W : World), m ≤ k → readS m l j (wrap64 (line + 1)) = some q → Below w.heap.size w W → Calls Tryz.prog 82 #[.slice A l.length c, .int .i64 j, .int .i64 (wrap64 (line + 1))] W (ReadOut q W))) (HA0 : Aside0 (loopS k l line r1 = some R)) :
  Calls Tryz.prog 82 #[.slice A l.length c, .int .i64 i0, .int .i64 line] w (ReadOut R w) := by
 have hb5 : (line == 5) = false := by simp [h5]
 have hb4 : (line == 4) = false := by simp [h4]
 have hlc := HT.out.1
 have hmax := HT.out.2.2.1
 go_enter Tryz.func82, Tryz.ntmps82
 go_wp2_with (first
  | (go_at_call 82; (with_reducible refine (HS.out _ (bel1 w _)).mono ?_); clear HS; rintro e w1 ⟨A1, c1, rfl, hF, hb⟩; have HF := Aside0.mk (KidsP.bnd hF); have HB1 := Aside0.mk (below_step (bel1 w _) hb); have B6 := Aside0.mk (blk_below (newBlk w _) hb); have hg := blk_lt B6.out; clear hb hF)
  | ((with_reducible refine gate_store (t := 123) (p := 8) (v := .tmp 39) rfl ?_); refine wpRowSt rfl 123 (.tmp 8) (.tmp 39) rfl (w1.heap.size) (rdA r1.n A1 c1 r1.i r1.bad) rfl rfl 123 _ (newBlk w1 _) (by kernel_rfl) rfl rfl ?_))
 have hsz : (w.alloc (.cells Z18 123)).heap.size = w.heap.size + 1 := by simp
 have hK0 := Aside0.mk (KidsP.mono (KidsP.row (KidsP.below HF.out (bel1 w1 (.cells Z18 123))) w1.heap.size (rdA r1.n A1 c1 r1.i r1.bad) (fun k hk => by have := hk.2; omega)) (Q := fun z => w.heap.size + 1 ≤ z ∧ z ≠ w1.heap.size) (fun k hk => by have h1 := hk.1; have h2 := hk.2; rw [hsz] at h1; omega))
 have hB0 := Aside0.mk (rowBelow (below_alloc HB1.out (.cells Z18 123)) (show w.heap.size ≤ w1.heap.size by omega) (rdA r1.n A1 c1 r1.i r1.bad))
 have h60 := Aside0.mk (rowOther (rdA r1.n A1 c1 r1.i r1.bad) (blk_alloc B6.out (.cells Z18 123)) (g := w1.heap.size) (by omega))
 have h80 := Aside0.mk (setRow_heap _ _ _ (rdA r1.n A1 c1 r1.i r1.bad) _ _ (newBlk w1 (.cells Z18 123)))
 generalize (w1.alloc (.cells Z18 123)).setRow w1.heap.size (rdA r1.n A1 c1 r1.i r1.bad) = w2 at hK0 hB0 h60 h80 ⊢
 generalize w1.heap.size = g8 at hg hK0 h80 ⊢
 clear HF HB1 B6 hsz
 rw [show ∀ (a : Act) (v : Value), a.put none v = a from fun _ _ => rfl]
 go_loopg [9] k (fun kq v9 w' => ∃ (r : Rd) (A2 : Option Addr) (c2 : Nat), Aside0 (loopS kq l line r = some R) ∧ Aside0 (kq ≤ k) ∧ Aside0 (w'.heap[g8]? = some (.cells (rdA r.n A2 c2 r.i r.bad) 123 (0, 0))) ∧ Aside0 (KidsP w' (fun z => w.heap.size + 1 ≤ z ∧ z ≠ g8) A2 c2 r.n.f5) ∧ Aside0 (Below w.heap.size w w') ∧ Aside0 (w'.heap[w.heap.size]? = some (.cells Z18 123 (0, 0))))
 case atStart => exact ⟨r1, A1, c1, HA0, ⟨Nat.le_refl _⟩, h80, hK0, hB0, h60⟩
 case round =>
  clear HA0 h80 hK0 hB0 h60
  obtain ⟨⟨n, i, b⟩, A2, c2, HA, HK1, H8, HK, HB, B6⟩ := hrel
  simp only at HA H8 HK
  cases gk with
  | zero => exact absurd HA.out (by simp [loopS])
  | succ k1 =>
   have HAo := HA.out
   rw [loopS] at HAo
   clear HA
   have hc8 := fun i => blk_cell H8.out i
   cases b with
   | true =>
    simp only [if_true] at HAo
    obtain rfl := Option.some.inj HAo
    clear HAo
    go_wp2_with (first
     | ((with_reducible refine gate_dst (N := 89) rfl ?_); refine wpPartLd 89 rfl rfl 123 (.tmp 8) rfl (g8) rfl _ (rdA n A2 c2 i true) [] (H8.out) rfl Tryz.underlying123 rfl (by kernel_rfl) ?_)
     | ((with_reducible refine gate_store (t := 123) (p := 6) (v := .tmp 89) rfl ?_); refine wpRowSt rfl 123 (.tmp 6) (.tmp 89) rfl (w.heap.size) (rdA n A2 c2 i true) rfl rfl 123 _ (B6.out) (by kernel_rfl) rfl rfl ?_))
    refine bodyPost_ret (results_cell_row rfl _ _ (w.heap.size) 123 (rdA n A2 c2 i true) (0, 0) _ rfl (setRow_heap _ _ _ _ _ _ B6.out) Tryz.underlying123 rfl (by kernel_rfl)) rfl ?_
    exact ⟨A2, c2, rfl, KidsP.mono (KidsP.row HK.out _ _ (fun k hk => by have := hk.1; omega)) (fun k hk => by have := hk.1; omega), rowBelow HB.out (Nat.le_refl _) _⟩

   | false =>
    simp only [Bool.false_eq_true, if_false] at HAo
    have hr0 : ∃ t, tokS l i = some t := by
     cases hq : tokS l i with
     | none => rw [hq] at HAo; cases HAo
     | some t => exact ⟨t, rfl⟩
    obtain ⟨t, ht⟩ := hr0
    rw [ht] at HAo
    simp only [Option.bind_some] at HAo
    have hrng : 0 ≤ i ∧ i < (l.length : Int) := by
     unfold tokS at ht
     split at ht
     ·assumption
     ·cases ht
    have htt : rd_T127 l i = t := by
     unfold tokS at ht
     rw [if_pos hrng] at ht
     exact Option.some.inj ht
    obtain ⟨ad, eA, x0, x1, x2, x3, x4, x5, x6, x7, x8, x9, x10, x11⟩ := at_T127 (Kd.C_below HT.out.2 HB.out) i hrng.1 hrng.2
    rw [htt] at x0 x1 x2 x3 x4 x5 x6 x7 x8 x9 x10 x11
    subst eA
    have p1 := eq_true hrng.1
    have p2 := eq_true hrng.2
    clear ht htt hrng
    have HLn := Aside0.mk (rLN_eq t.f3)
    generalize rLN t.f3 = ln at HLn HAo
    by_cases k4 : t.f0 = 4
    ·rw [if_pos k4] at HAo
     have k4b : (t.f0 == 4) = true := by simp [k4]
     clear k4
     by_cases kl : ln = line
     ·rw [if_pos kl] at HAo
      subst kl
      have hr1 : ∃ q, readS k1 l (wrap64 (i + 1)) (wrap64 (ln + 1)) = some q := by
       cases hq : readS k1 l (wrap64 (i + 1)) (wrap64 (ln + 1)) with
       | none => rw [hq] at HAo; cases HAo
       | some q => exact ⟨q, rfl⟩
      obtain ⟨q, hq⟩ := hr1
      rw [hq] at HAo
      simp only [Option.bind_some] at HAo
      have HQc := Aside0.mk fun (W : World) (h : Below w.heap.size w W) => HQ.out _ q k1 W (by have := HK1.out; omega) hq h
      clear hq
      obtain ⟨qn, qi, qb⟩ := q
      simp only at HAo
      have HA2 := Aside0.mk HAo
      clear HAo
      have hlt8 := blk_lt H8.out
      cases qb with
      | true =>
       go_wp2_with (first
        | (go_at_call 67; (with_reducible refine (foolscapref08_Line.calls _ _ _ _ HLn.out).mono ?_); rintro e w1 ⟨rfl, nd, rfl⟩; have G8 := Aside0.mk (blk_drewN H8.out nd); have G6 := Aside0.mk (blk_drewN B6.out nd); have GB := Aside0.mk (pw_below_drewN HB.out nd); have GK := Aside0.mk (KidsP.below HK.out (pw_below_drewN (Below.refl _ _) nd)); have hg8 := fun i => blk_cell G8.out i)
        | (go_at_call 82; (with_reducible refine (HQc.out _ GB.out).mono ?_); clear HQc; rintro e w3 ⟨A3, c3, rfl, hF, hb⟩; have q8 := blk_lt G8.out; have q6 := blk_lt G6.out; have HF3 := Aside0.mk (KidsP.mono (KidsP.bnd hF) (Q := fun k => g8 < k ∧ k < w3.heap.size) (fun k hk => ⟨Nat.lt_of_lt_of_le q8 hk.1, hk.2⟩)); have HB3 := Aside0.mk (below_step GB.out hb); have K3 := Aside0.mk (KidsP.bnd (KidsP.below GK.out hb)); replace G8 := Aside0.mk (blk_below G8.out hb); replace G6 := Aside0.mk (blk_below G6.out hb); have hlt3 := blk_lt G8.out; have hlt6 := blk_lt G6.out; have hsz3 := hb.size; clear hb hF)
        | ((with_reducible refine gate_store (t := 123) (p := 10) (v := .tmp 75) rfl ?_); refine wpRowSt rfl 123 (.tmp 10) (.tmp 75) rfl (w3.heap.size) (rdA qn A3 c3 qi true) rfl rfl 123 _ (newBlk w3 _) (by kernel_rfl) rfl rfl ?_; have G10 := Aside0.mk (setRow_heap _ _ _ (rdA qn A3 c3 qi true) _ _ (newBlk w3 (.cells Z18 123))); have V8 := Aside0.mk (rowOther (rdA qn A3 c3 qi true) (blk_alloc G8.out (.cells Z18 123)) (g := w3.heap.size) (by omega)); have hc10 := fun i => blk_cell G10.out i; have hd10 := fun (o : Obj) (i : Nat) => blk_cell (blk_alloc G10.out o) i)
        | ((with_reducible refine gate_dst (N := 78) rfl ?_); refine wpPartLd 78 rfl rfl 123 (.tmp 10) rfl (w3.heap.size) rfl _ (rdA qn A3 c3 qi true) [] (G10.out) rfl Tryz.underlying123 rfl (by kernel_rfl) ?_)
        | ((with_reducible refine gate_store (t := 123) (p := 6) (v := .tmp 78) rfl ?_); refine wpRowSt rfl 123 (.tmp 6) (.tmp 78) rfl (w.heap.size) (rdA qn A3 c3 qi true) rfl rfl 123 _ (rowOther _ (blk_alloc G6.out _) (g := w3.heap.size) (by omega)) (by kernel_rfl) rfl rfl ?_))
       refine bodyPost_ret (results_cell_row rfl _ _ (w.heap.size) 123 (rdA qn A3 c3 qi true) (0, 0) _ rfl (setRow_heap _ _ _ _ _ _ (rowOther _ (blk_alloc G6.out _) (g := w3.heap.size) (by omega))) Tryz.underlying123 rfl (by kernel_rfl)) rfl ?_
       obtain rfl := Option.some.inj (show some _ = some R from HA2.out)
       exact ⟨A3, c3, rfl, KidsP.mono (KidsP.row (KidsP.row (KidsP.below HF3.out (bel1 w3 _)) _ _ (fun k hk => by have := hk.2; omega)) _ _ (fun k hk => by have := hk.1; omega)) (fun k hk => by have := hk.1; show w.heap.size ≤ k; omega), rowBelow (rowBelow (below_alloc HB3.out _) (by omega) _) (Nat.le_refl _) _⟩
      | false =>
       go_wp2_with (first
        | (go_at_call 67; (with_reducible refine (foolscapref08_Line.calls _ _ _ _ HLn.out).mono ?_); rintro e w1 ⟨rfl, nd, rfl⟩; have G8 := Aside0.mk (blk_drewN H8.out nd); have G6 := Aside0.mk (blk_drewN B6.out nd); have GB := Aside0.mk (pw_below_drewN HB.out nd); have GK := Aside0.mk (KidsP.below HK.out (pw_below_drewN (Below.refl _ _) nd)); have hg8 := fun i => blk_cell G8.out i)
        | (go_at_call 82; (with_reducible refine (HQc.out _ GB.out).mono ?_); clear HQc; rintro e w3 ⟨A3, c3, rfl, hF, hb⟩; have q8 := blk_lt G8.out; have q6 := blk_lt G6.out; have HF3 := Aside0.mk (KidsP.mono (KidsP.bnd hF) (Q := fun k => g8 < k ∧ k < w3.heap.size) (fun k hk => ⟨Nat.lt_of_lt_of_le q8 hk.1, hk.2⟩)); have HB3 := Aside0.mk (below_step GB.out hb); have K3 := Aside0.mk (KidsP.bnd (KidsP.below GK.out hb)); replace G8 := Aside0.mk (blk_below G8.out hb); replace G6 := Aside0.mk (blk_below G6.out hb); have hlt3 := blk_lt G8.out; have hlt6 := blk_lt G6.out; have hsz3 := hb.size; clear hb hF)
        | ((with_reducible refine gate_store (t := 123) (p := 10) (v := .tmp 75) rfl ?_); refine wpRowSt rfl 123 (.tmp 10) (.tmp 75) rfl (w3.heap.size) (rdA qn A3 c3 qi false) rfl rfl 123 _ (newBlk w3 _) (by kernel_rfl) rfl rfl ?_; have G10 := Aside0.mk (setRow_heap _ _ _ (rdA qn A3 c3 qi false) _ _ (newBlk w3 (.cells Z18 123))); have V8 := Aside0.mk (rowOther (rdA qn A3 c3 qi false) (blk_alloc G8.out (.cells Z18 123)) (g := w3.heap.size) (by omega)); have hc10 := fun i => blk_cell G10.out i; have hd10 := fun (o : Obj) (i : Nat) => blk_cell (blk_alloc G10.out o) i)
        | ((with_reducible refine gate_dst (N := 81) rfl ?_); refine wpPartLd 81 rfl rfl 33 (.tmp 80) rfl (g8) rfl _ (nodeA n A2 c2) [.int .i64 i, .bool false] (V8.out) rfl Tryz.underlying33 rfl (by kernel_rfl) ?_)
        | ((with_reducible refine gate_dst (N := 83) rfl ?_); refine wpPartLd 83 rfl rfl 33 (.tmp 82) rfl (w3.heap.size) rfl _ (nodeA qn A3 c3) [.int .i64 qi, .bool false] (G10.out) rfl Tryz.underlying33 rfl (by kernel_rfl) ?_)
        | ((with_reducible refine gate_store (t := 123) (p := 8) (v := .tmp 88) rfl ?_); refine wpRowSt rfl 123 (.tmp 8) (.tmp 88) rfl (g8) #[.int .i64 5, .int .i64 0, .int .i64 0, .string ⟨#[]⟩, .bool false, .int .i64 0, .int .i64 0, .int .i64 0, .bool false, .bool false, .int .i64 0, .int .i64 0, .bool false, .bool false, .string t.f3, .slice (some ⟨w3.heap.size + 1, 0, none⟩) 2 2, .int .i64 qi, .bool false] rfl rfl 123 _ (blk_alloc V8.out _) (by kernel_rfl) rfl rfl ?_))
       rw [show ∀ (a : Act) (v : Value), a.put none v = a from fun _ _ => rfl]
       have hV : ((w3.alloc (.cells Z18 123)).setRow w3.heap.size (rdA qn A3 c3 qi false)).heap.size = w3.heap.size + 1 := (size_setRow _ _ _).trans (by simp)
       have h11 := newBlk ((w3.alloc (.cells Z18 123)).setRow w3.heap.size (rdA qn A3 c3 qi false)) (.cells #[.int .i64 n.f0, .int .i64 n.f1.f0, .int .i64 n.f1.f1, .string n.f1.f2, .bool n.f1.f3, .int .i64 n.f1.f4, .int .i64 n.f2.f0.f0, .int .i64 n.f2.f0.f1, .bool n.f2.f1, .bool n.f2.f2, .int .i64 n.f3.f0.f0, .int .i64 n.f3.f0.f1, .bool n.f3.f1, .bool n.f3.f2, .string n.f4, .slice A2 n.f5.length c2, .int .i64 qn.f0, .int .i64 qn.f1.f0, .int .i64 qn.f1.f1, .string qn.f1.f2, .bool qn.f1.f3, .int .i64 qn.f1.f4, .int .i64 qn.f2.f0.f0, .int .i64 qn.f2.f0.f1, .bool qn.f2.f1, .bool qn.f2.f2, .int .i64 qn.f3.f0.f0, .int .i64 qn.f3.f0.f1, .bool qn.f3.f1, .bool qn.f3.f2, .string qn.f4, .slice A3 qn.f5.length c3] 33)
       rw [hV] at h11
       have H11 := Aside0.mk h11
       clear h11
       go_roundg k1
       case measure => have := HK1.out; omega
       case rel => exact ⟨⟨⟨5, zeroV, zeroC, zeroC, t.f3, [n, qn]⟩, qi, false⟩, some ⟨w3.heap.size + 1, 0, none⟩, 2, HA2, ⟨by have := HK1.out; omega⟩, ⟨setRow_heap _ _ _ _ _ _ (blk_alloc V8.out _)⟩,
        ⟨kids_lit2 n qn (cs := #[.int .i64 n.f0, .int .i64 n.f1.f0, .int .i64 n.f1.f1, .string n.f1.f2, .bool n.f1.f3, .int .i64 n.f1.f4, .int .i64 n.f2.f0.f0, .int .i64 n.f2.f0.f1, .bool n.f2.f1, .bool n.f2.f2, .int .i64 n.f3.f0.f0, .int .i64 n.f3.f0.f1, .bool n.f3.f1, .bool n.f3.f2, .string n.f4, .slice A2 n.f5.length c2, .int .i64 qn.f0, .int .i64 qn.f1.f0, .int .i64 qn.f1.f1, .string qn.f1.f2, .bool qn.f1.f3, .int .i64 qn.f1.f4, .int .i64 qn.f2.f0.f0, .int .i64 qn.f2.f0.f1, .bool qn.f2.f1, .bool qn.f2.f2, .int .i64 qn.f3.f0.f0, .int .i64 qn.f3.f0.f1, .bool qn.f3.f1, .bool qn.f3.f2, .string qn.f4, .slice A3 qn.f5.length c3]) rfl (rowOther _ H11.out (g := g8) (by omega)) ⟨by omega, by omega⟩
         (KidsP.mono (KidsP.row (KidsP.below (KidsP.row (KidsP.below K3.out (bel1 w3 _)) w3.heap.size _ (fun k hk => by have := hk.2; omega)) (bel1 _ _)) g8 _ (fun k hk => hk.1.2)) (fun k hk => hk.1))
         (KidsP.mono (KidsP.row (KidsP.below (KidsP.row (KidsP.below HF3.out (bel1 w3 _)) w3.heap.size _ (fun k hk => by have := hk.2; omega)) (bel1 _ _)) g8 _ (fun k hk => by have := hk.1; omega)) (fun k hk => ⟨by have := hk.1; omega, by have := hk.1; omega⟩))⟩,
        ⟨rowBelow (below_alloc (rowBelow (below_alloc HB3.out _) (by omega) _) _) (by omega) _⟩, ⟨rowOther _ (blk_alloc (rowOther _ (blk_alloc G6.out _) (g := w3.heap.size) (by omega)) _) (g := g8) (by omega)⟩⟩
     ·rw [if_neg kl] at HAo
      obtain rfl := Option.some.inj HAo
      have klb : (ln == line) = false := by simp [kl]
      clear HAo kl
      go_wp2_with (first
       | (go_at_call 67; (with_reducible refine (foolscapref08_Line.calls _ _ _ _ HLn.out).mono ?_); rintro e w1 ⟨rfl, nd, rfl⟩; have G8 := Aside0.mk (blk_drewN H8.out nd); have G6 := Aside0.mk (blk_drewN B6.out nd); have GB := Aside0.mk (pw_below_drewN HB.out nd); have GK := Aside0.mk (KidsP.below HK.out (pw_below_drewN (Below.refl _ _) nd)); have hg8 := fun i => blk_cell G8.out i)
       | ((with_reducible refine gate_dst (N := 89) rfl ?_); refine wpPartLd 89 rfl rfl 123 (.tmp 8) rfl (g8) rfl _ (rdA n A2 c2 i false) [] (G8.out) rfl Tryz.underlying123 rfl (by kernel_rfl) ?_)
       | ((with_reducible refine gate_store (t := 123) (p := 6) (v := .tmp 89) rfl ?_); refine wpRowSt rfl 123 (.tmp 6) (.tmp 89) rfl (w.heap.size) (rdA n A2 c2 i false) rfl rfl 123 _ (G6.out) (by kernel_rfl) rfl rfl ?_))
      refine bodyPost_ret (results_cell_row rfl _ _ (w.heap.size) 123 (rdA n A2 c2 i false) (0, 0) _ rfl (setRow_heap _ _ _ _ _ _ G6.out) Tryz.underlying123 rfl (by kernel_rfl)) rfl ?_
      exact ⟨A2, c2, rfl, KidsP.mono (KidsP.row GK.out _ _ (fun k hk => by have := hk.1; omega)) (fun k hk => by have := hk.1; omega), rowBelow GB.out (Nat.le_refl _) _⟩
    ·rw [if_neg k4] at HAo
     obtain rfl := Option.some.inj HAo
     have k4b : (t.f0 == 4) = false := by simp [k4]
     clear HAo k4
     go_wp2_with (first
      | ((with_reducible refine gate_dst (N := 89) rfl ?_); refine wpPartLd 89 rfl rfl 123 (.tmp 8) rfl (g8) rfl _ (rdA n A2 c2 i false) [] (H8.out) rfl Tryz.underlying123 rfl (by kernel_rfl) ?_)
      | ((with_reducible refine gate_store (t := 123) (p := 6) (v := .tmp 89) rfl ?_); refine wpRowSt rfl 123 (.tmp 6) (.tmp 89) rfl (w.heap.size) (rdA n A2 c2 i false) rfl rfl 123 _ (B6.out) (by kernel_rfl) rfl rfl ?_))
     refine bodyPost_ret (results_cell_row rfl _ _ (w.heap.size) 123 (rdA n A2 c2 i false) (0, 0) _ rfl (setRow_heap _ _ _ _ _ _ B6.out) Tryz.underlying123 rfl (by kernel_rfl)) rfl ?_
     exact ⟨A2, c2, rfl, KidsP.mono (KidsP.row HK.out _ _ (fun k hk => by have := hk.1; omega)) (fun k hk => by have := hk.1; omega), rowBelow HB.out (Nat.le_refl _) _⟩
end Go.Proofs.YthnldbclbfpojaaGreatDoor.Pr
end
