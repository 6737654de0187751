/-
  What the law RewriteMoves leans on, out of the texts that were printed and written for this seat: only what its proof mentions (gathered by a program of the author's).
-/
import Derived.Test.YthnldbclbfpojaaGreatDoorSRewriteMoves11
import Derived.Test.YthnldbclbfpojaaGreatDoorSRewriteMoves40
import Derived.Test.YthnldbclbfpojaaGreatDoorSRewriteMoves30
import Derived.Test.YthnldbclbfpojaaGreatDoorSRewriteMoves14
import Derived.Test.YthnldbclbfpojaaGreatDoorSRewriteMoves15
import Derived.Test.YthnldbclbfpojaaGreatDoorSRewriteMoves23
set_option maxHeartbeats 8000000
set_option maxRecDepth 100000
set_option linter.unusedVariables false
set_option linter.unusedSimpArgs false
section
namespace Go.Proofs.YthnldbclbfpojaaGreatDoor.Pr
open Go.RowKit Go.Proofs.YthnldbclbfpojaaGreatDoorW.PrintWords Go.Proofs.YthnldbclbfpojaaGreatDoorW.PrintLast Go.Proofs.YthnldbclbfpojaaGreatDoorW.PrintMore
def rwSides.T0 : Bool × List (List Nat × List Nat) := (true, [([], []), ([0], [0]), ([1], [1]), ([], []), ([3], [3]), ([4], [4]), ([2, 5], [2, 5])])
def rwSides.B0 : List Nat := [0, 1, 3, 0, 8, 24, 63]
theorem rwSides.tab0 : rtab .any (opsOf Tryz.f74 0) = rwSides.T0 := by kernel_rfl
theorem rwSides.bits0 : waitsOk rwSides.T0.2 rwSides.B0 = true := by kernel_rfl
def moving2.T5 : Bool × List (List Nat × List Nat) := (true, [([], []), ([], []), ([], []), ([0, 0], [0]), ([1, 3, 0, 1, 3], [1]), ([2, 4, 0, 1, 2, 3, 4], [2])])
def moving2.B5 : List Nat := [0, 0, 0, 1, 11, 31]
theorem moving2.tab5 : rtab .any (opsOf Tryz.f72 5) = moving2.T5 := by kernel_rfl
theorem moving2.bits5 : waitsOk moving2.T5.2 moving2.B5 = true := by kernel_rfl
theorem sides_calls (x y lo hi : Int) (g j h k : Nat) (cs ds : Array Value) (t u : TypeId) (w : World) (HG : Aside0 (w.heap[g]? = some (.cells cs t (0, 0)))) (HJ : Aside0 (cs[j]? = some (.int .i64 x))) (HH : Aside0 (w.heap[h]? = some (.cells ds u (0, 0)))) (HK : Aside0 (ds[k]? = some (.int .i64 y))) (hgh : g ≠ h) :
  Calls Tryz.prog 74 #[.pointer (some ⟨g, j, none⟩), .pointer (some ⟨h, k, none⟩), .int .i64 lo, .int .i64 hi] w fun e w' => e = .returned (.tuple #[]) ∧ Below w.heap.size ((w.setCell ⟨g, j, none⟩ (.int .i64 (if x ≤ y then lo else hi))).setCell ⟨h, k, none⟩ (.int .i64 (if x ≤ y then hi else lo))) w' := by
 have hhg : h ≠ g := fun e => hgh e.symm
 have HA := Aside0.mk (fun v : Value => blk_cell (blk_far (p := ⟨g, j, none⟩) HH.out hhg v) k)
 have hs1 := (blk_cell HG.out j).trans HJ.out
 have hf1 := blk_frozen HG.out j
 have hs2 := (blk_cell HH.out k).trans HK.out
 have hf2 := blk_frozen HH.out k
 by_cases hxy : x ≤ y
 ·rw [if_pos hxy, if_pos hxy]
  go_enter Tryz.func74, Tryz.ntmps74
  go_wp2
  refine start_ (n := 7) (S := (fun w' => w'.heap[g]? = some (.cells cs t (0, 0)) ∧ w'.heap[h]? = some (.cells ds u (0, 0)))) (ds := []) (Array.replicate 7 false) (by kernel_rfl) rfl rfl ⟨blk_drew HG.out, blk_drew HH.out⟩ (fun hHeld => ?_)
  refine with_tabW rwSides.tab0 rwSides.bits0 (fun HT_ HW_ => ?_)
  refine pz 0 8 HT_ ?_; refine pz 1 9 HT_ ?_; refine pz 3 11 HT_ ?_; refine pz 4 12 HT_ ?_
  refine tz 2 10 HT_ HW_ (hr := (by rintro w' s0; have q1 : w'.cell? ⟨g, j, none⟩ = some (.int .i64 x) := (blk_cell s0.1 j).trans HJ.out; have q2 : w'.cell? ⟨h, k, none⟩ = some (.int .i64 y) := (blk_cell s0.2 k).trans HK.out; go_simp; with_reducible rfl)) (hS := hHeld) (h := ?_)
  refine tz 5 13 HT_ HW_ (hr := (by rintro w' s0; have q1 : w'.cell? ⟨g, j, none⟩ = some (.int .i64 x) := (blk_cell s0.1 j).trans HJ.out; have q2 : w'.cell? ⟨h, k, none⟩ = some (.int .i64 y) := (blk_cell s0.2 k).trans HK.out; go_simp; with_reducible rfl)) (hS := hHeld) (h := ?_)
  refine pz 6 14 HT_ ?_
  refine done_ (done_of HT_.out (by kernel_rfl)) ?_
  go_wp2
  refine bodyPost_ret (results_none rfl _ _ _) rfl ?_
  exact ⟨rfl, below_drew1 (Below.refl _ _)⟩
 ·rw [if_neg hxy, if_neg hxy]
  go_enter Tryz.func74, Tryz.ntmps74
  go_wp2
  refine start_ (n := 7) (S := (fun w' => w'.heap[g]? = some (.cells cs t (0, 0)) ∧ w'.heap[h]? = some (.cells ds u (0, 0)))) (ds := []) (Array.replicate 7 false) (by kernel_rfl) rfl rfl ⟨blk_drew HG.out, blk_drew HH.out⟩ (fun hHeld => ?_)
  refine with_tabW rwSides.tab0 rwSides.bits0 (fun HT_ HW_ => ?_)
  refine pz 0 8 HT_ ?_; refine pz 1 9 HT_ ?_; refine pz 3 11 HT_ ?_; refine pz 4 12 HT_ ?_
  refine tz 2 10 HT_ HW_ (hr := (by rintro w' s0; have q1 : w'.cell? ⟨g, j, none⟩ = some (.int .i64 x) := (blk_cell s0.1 j).trans HJ.out; have q2 : w'.cell? ⟨h, k, none⟩ = some (.int .i64 y) := (blk_cell s0.2 k).trans HK.out; go_simp; with_reducible rfl)) (hS := hHeld) (h := ?_)
  refine tz 5 13 HT_ HW_ (hr := (by rintro w' s0; have q1 : w'.cell? ⟨g, j, none⟩ = some (.int .i64 x) := (blk_cell s0.1 j).trans HJ.out; have q2 : w'.cell? ⟨h, k, none⟩ = some (.int .i64 y) := (blk_cell s0.2 k).trans HK.out; go_simp; with_reducible rfl)) (hS := hHeld) (h := ?_)
  refine pz 6 14 HT_ ?_
  refine done_ (done_of HT_.out (by kernel_rfl)) ?_
  go_wp2
  go_end0
  exact ⟨rfl, below_drew1 (Below.refl _ _)⟩
def movC (a b d : Int) (c : Ce) : Ce := ⟨⟨(spotS a b d c.f0.f0 c.f0.f1).1.1, (spotS a b d c.f0.f0 c.f0.f1).1.2⟩, c.f1, c.f2⟩
def movB (a b d : Int) (c : Ce) : Bool := (spotS a b d c.f0.f0 c.f0.f1).2.1 == 0
theorem moving1_calls (a b d : Int) (c : Ce) (p : Nat) (w : World) (hp : w.heap[p]? = some (.cells (edA a b d) 47 (0, 0))) :
  Calls Tryz.prog 71 #[.agg (cellA c), ptrV p] w fun e w' => e = .returned (.tuple #[.agg (cellA (movC a b d c)), .bool (movB a b d c)]) ∧ Below w.heap.size w w' := by
 have HS := Aside0.mk fun W => spot_calls a b d c.f0.f0 c.f0.f1 W
 unfold movC movB
 generalize spotS a b d c.f0.f0 c.f0.f1 = z at HS ⊢
 obtain ⟨⟨x, y⟩, f, q⟩ := z
 obtain ⟨⟨c0, c1⟩, c2, c3⟩ := c
 simp only at HS ⊢
 have hpe := fun (o1 o2 : Obj) (i : Nat) => blk_cell (blk_alloc (blk_alloc hp o1) o2) i
 have hne : w.heap.size + 1 ≠ w.heap.size := by omega
 clear hp
 go_enter Tryz.func71, Tryz.ntmps71
 go_wp2_with (first
  | (go_at_call 22; (with_reducible refine (HS.out _).mono ?_); rintro e w1 ⟨rfl, hb⟩; have HB1 := Aside0.mk (below_step (bel2 w _ _) hb); have B2 := Aside0.mk (blk_below (blk_alloc (newBlk w _) _) hb); have B3 := Aside0.mk (blk_below (newBlk2 w _ _) hb); clear hb hpe; have hc := fun (o : Obj) (i : Nat) => blk_cell (blk_alloc B2.out o) i; have hf := fun (o : Obj) (i : Nat) => blk_frozen (blk_alloc B2.out o) i)
  | ((with_reducible refine gate_store (t := 30) (p := 3) (v := .tmp 18) rfl ?_); refine wpRowSt rfl 30 (.tmp 3) (.tmp 18) rfl (w.heap.size + 1) #[.int .i64 x, .int .i64 y, .bool c2, .bool c3] rfl rfl 30 _ (blk_far (p := ⟨w.heap.size, 1, none⟩) (blk_far (p := ⟨w.heap.size, 0, none⟩) (blk_alloc B3.out _) hne _) hne _) (by kernel_rfl) rfl rfl ?_))
 refine bodyPost_ret (results_ct rfl _ _ (w.heap.size + 1) 30 #[.int .i64 x, .int .i64 y, .bool c2, .bool c3] (0, 0) _ rfl (setRow_heap _ _ _ _ _ _ (blk_far (p := ⟨w.heap.size, 1, none⟩) (blk_far (p := ⟨w.heap.size, 0, none⟩) (blk_alloc B3.out _) hne _) hne _)) Tryz.underlying30 rfl (by kernel_rfl)) rfl ?_
 exact ⟨rfl, rowBelow (below_set (below_set (below_alloc HB1.out _) (Nat.le_refl _)) (Nat.le_refl _)) (by omega) _⟩
theorem put_below2 {w W : World} {a b : Addr} {v u : Value} (h : Below w.heap.size ((w.setCell a v).setCell b u) W) : Below ((w.setCell a v).setCell b u).heap.size ((w.setCell a v).setCell b u) W := by
 have z : ((w.setCell a v).setCell b u).heap.size = w.heap.size := by simp
 rwa [z]
def ofS (a0 a1 b0 b1 : Int) : Rc := if placeB a0 a1 = true ∧ placeB b0 b1 = true then ⟨mn a0 b0, mn a1 b1, mx a0 b0, mx a1 b1⟩ else ⟨0, 0, 0, 0⟩
theorem placeOf_S (a0 a1 b0 b1 : Int) : ∃ e, place_Of.f a0 a1 b0 b1 = some ((ofS a0 a1 b0 b1).t, (ofS a0 a1 b0 b1).l, (ofS a0 a1 b0 b1).o, (ofS a0 a1 b0 b1).r, e) := by
 unfold place_Of.f ofS
 rw [place_is_B, place_is_B]
 cases placeB a0 a1 <;> cases placeB b0 b1 <;> exact ⟨_, rfl⟩
def movR (a b d : Int) (p q : Ce) : Rc × Bool × Int := rectS a b d (ofS p.f0.f0 p.f0.f1 q.f0.f0 q.f0.f1).t (ofS p.f0.f0 p.f0.f1 q.f0.f0 q.f0.f1).l (ofS p.f0.f0 p.f0.f1 q.f0.f0 q.f0.f1).o (ofS p.f0.f0 p.f0.f1 q.f0.f0 q.f0.f1).r
def movX (a b d : Int) (p q : Ce) : Ce := ⟨⟨if p.f0.f0 ≤ q.f0.f0 then (movR a b d p q).1.t else (movR a b d p q).1.o, if p.f0.f1 ≤ q.f0.f1 then (movR a b d p q).1.l else (movR a b d p q).1.r⟩, p.f1, p.f2⟩
def movY (a b d : Int) (p q : Ce) : Ce := ⟨⟨if p.f0.f0 ≤ q.f0.f0 then (movR a b d p q).1.o else (movR a b d p q).1.t, if p.f0.f1 ≤ q.f0.f1 then (movR a b d p q).1.r else (movR a b d p q).1.l⟩, q.f1, q.f2⟩
theorem moving2_calls (a b d : Int) (c q : Ce) (p : Nat) (w : World) (hp : w.heap[p]? = some (.cells (edA a b d) 47 (0, 0))) :
  Calls Tryz.prog 72 #[.agg (cellA c), .agg (cellA q), ptrV p] w fun e w' => e = .returned (.tuple #[.agg (cellA (movX a b d c q)), .agg (cellA (movY a b d c q)), .bool (movR a b d c q).2.1]) ∧ Below w.heap.size w w' := by
 obtain ⟨q5, hO⟩ := placeOf_S c.f0.f0 c.f0.f1 q.f0.f0 q.f0.f1
 have HO := Aside0.mk hO
 clear hO
 have HR := Aside0.mk fun W => rect_calls a b d (ofS c.f0.f0 c.f0.f1 q.f0.f0 q.f0.f1).t (ofS c.f0.f0 c.f0.f1 q.f0.f0 q.f0.f1).l (ofS c.f0.f0 c.f0.f1 q.f0.f0 q.f0.f1).o (ofS c.f0.f0 c.f0.f1 q.f0.f0 q.f0.f1).r W
 unfold movX movY movR
 generalize ofS c.f0.f0 c.f0.f1 q.f0.f0 q.f0.f1 = o at HO HR ⊢
 obtain ⟨o1, o2, o3, o4⟩ := o
 simp only at HO HR ⊢
 generalize rectS a b d o1 o2 o3 o4 = z at HR ⊢
 obtain ⟨⟨x1, x2, x3, x4⟩, ok, er⟩ := z
 obtain ⟨⟨c0, c1⟩, c2, c3⟩ := c
 obtain ⟨⟨d0, d1⟩, d2, d3⟩ := q
 simp only at HO HR ⊢
 have HP := Aside0.mk hp
 have qp := blk_lt hp
 clear hp
 generalize hva0 : (if c0 ≤ d0 then x1 else x3) = va0
 generalize hvb0 : (if c0 ≤ d0 then x3 else x1) = vb0
 generalize hva1 : (if c1 ≤ d1 then x2 else x4) = va1
 generalize hvb1 : (if c1 ≤ d1 then x4 else x2) = vb1
 have n01 : w.heap.size ≠ w.heap.size + 1 := by omega
 have n10 : w.heap.size + 1 ≠ w.heap.size := by omega
 have n20 : w.heap.size + 2 ≠ w.heap.size := by omega
 have n21 : w.heap.size + 2 ≠ w.heap.size + 1 := by omega
 have n30 : w.heap.size + 3 ≠ w.heap.size := by omega
 have n31 : w.heap.size + 3 ≠ w.heap.size + 1 := by omega
 have HS1 := Aside0.mk fun (W : World) (h1 : W.heap[w.heap.size]? = some (.cells #[.int .i64 c0, .int .i64 c1, .bool c2, .bool c3] 30 (0, 0))) (h2 : W.heap[w.heap.size + 1]? = some (.cells #[.int .i64 d0, .int .i64 d1, .bool d2, .bool d3] 30 (0, 0))) => sides_calls c0 d0 x1 x3 w.heap.size 0 (w.heap.size + 1) 0 _ _ 30 30 W ⟨h1⟩ ⟨rfl⟩ ⟨h2⟩ ⟨rfl⟩ n01
 have HS2 := Aside0.mk fun (W : World) (h1 : W.heap[w.heap.size]? = some (.cells #[.int .i64 va0, .int .i64 c1, .bool c2, .bool c3] 30 (0, 0))) (h2 : W.heap[w.heap.size + 1]? = some (.cells #[.int .i64 vb0, .int .i64 d1, .bool d2, .bool d3] 30 (0, 0))) => sides_calls c1 d1 x2 x4 w.heap.size 1 (w.heap.size + 1) 1 _ _ 30 30 W ⟨h1⟩ ⟨rfl⟩ ⟨h2⟩ ⟨rfl⟩ n01
 rw [hva0, hvb0] at HS1
 rw [hva1, hvb1] at HS2
 clear hva0 hvb0 hva1 hvb1
 go_enter Tryz.func72, Tryz.ntmps72
 go_wp2_with (first
  | (go_at_call 42; (with_reducible refine (place_Of.calls _ _ _ _ _ _ _ _ _ _ HO.out).mono ?_); rintro e w1 ⟨rfl, hb⟩; have HB1 := Aside0.mk (below_step (bel4 w _ _ _ _) hb); have P3 := Aside0.mk (blk_below (newBlk4 w _ _ _ _).1 hb); have P4 := Aside0.mk (blk_below (newBlk4 w _ _ _ _).2.1 hb); have P5 := Aside0.mk (blk_below (newBlk4 w _ _ _ _).2.2.1 hb); have P6 := Aside0.mk (blk_below (newBlk4 w _ _ _ _).2.2.2 hb); clear hb; have he := fun (o : Obj) (i : Nat) => blk_cell (blk_alloc (blk_below HP.out HB1.out) o) i; have hg := blk_lt P6.out)
  | (go_at_call 73; (with_reducible refine (HR.out _).mono ?_); rintro e w2 ⟨rfl, hb⟩; have HB2 := Aside0.mk (below_step (below_alloc HB1.out _) hb); have Q3 := Aside0.mk (blk_below (blk_alloc P3.out _) hb); have Q4 := Aside0.mk (blk_below (blk_alloc P4.out _) hb); have Q5 := Aside0.mk (blk_below (blk_alloc P5.out _) hb); have Q6 := Aside0.mk (blk_below (blk_alloc P6.out _) hb); have Q8 := Aside0.mk (blk_below (newBlk w1 _) hb); clear hb he)
  | ((with_reducible refine gate_store (t := 64) (p := 8) (v := .tmp 24) rfl ?_); refine wpRowSt rfl 64 (.tmp 8) (.tmp 24) rfl (w1.heap.size) (rcA x1 x2 x3 x4) rfl rfl 64 _ Q8.out (by kernel_rfl) rfl rfl ?_; have he := fun i => blk_cell (setRow_heap _ _ _ (rcA x1 x2 x3 x4) _ _ Q8.out) i)
  | (go_at_call 74; (with_reducible refine (HS1.out _ (rowOther (rcA x1 x2 x3 x4) Q3.out (g := w1.heap.size) (by omega)) (rowOther (rcA x1 x2 x3 x4) Q4.out (g := w1.heap.size) (by omega))).mono ?_); clear HS1; rintro e w3 ⟨rfl, hb⟩; have hbp := put_below2 hb; have HB3 := Aside0.mk (below_step (below_set (below_set (rowBelow HB2.out (show w.heap.size ≤ w1.heap.size by omega) (rcA x1 x2 x3 x4)) (Nat.le_refl _)) (Nat.le_succ _)) hbp); have R3 := Aside0.mk (blk_below (blk_far (p := ⟨w.heap.size + 1, 0, none⟩) (blk_put (rowOther (rcA x1 x2 x3 x4) Q3.out (g := w1.heap.size) (by omega)) 0 _ (cs' := #[.int .i64 va0, .int .i64 c1, .bool c2, .bool c3]) rfl) n01 _) hbp); have R4 := Aside0.mk (blk_below (blk_put (blk_far (p := ⟨w.heap.size, 0, none⟩) (rowOther (rcA x1 x2 x3 x4) Q4.out (g := w1.heap.size) (by omega)) n10 _) 0 _ (cs' := #[.int .i64 vb0, .int .i64 d1, .bool d2, .bool d3]) rfl) hbp); have R5 := Aside0.mk (blk_below (blk_far (p := ⟨w.heap.size + 1, 0, none⟩) (blk_far (p := ⟨w.heap.size, 0, none⟩) (rowOther (rcA x1 x2 x3 x4) Q5.out (g := w1.heap.size) (by omega)) n20 _) n21 _) hbp); have R6 := Aside0.mk (blk_below (blk_far (p := ⟨w.heap.size + 1, 0, none⟩) (blk_far (p := ⟨w.heap.size, 0, none⟩) (rowOther (rcA x1 x2 x3 x4) Q6.out (g := w1.heap.size) (by omega)) n30 _) n31 _) hbp); have R8 := Aside0.mk (blk_below (blk_far (p := ⟨w.heap.size + 1, 0, none⟩) (blk_far (p := ⟨w.heap.size, 0, none⟩) (setRow_heap _ _ _ (rcA x1 x2 x3 x4) _ _ Q8.out) (show w1.heap.size ≠ w.heap.size by omega) _) (show w1.heap.size ≠ w.heap.size + 1 by omega) _) hbp); clear hb hbp he; have he := fun i => blk_cell R8.out i)
  | (go_at_call 74; (with_reducible refine (HS2.out _ R3.out R4.out).mono ?_); clear HS2; rintro e w4 ⟨rfl, hb⟩; have hbp := put_below2 hb; have HB4 := Aside0.mk (below_step (below_set (below_set HB3.out (Nat.le_refl _)) (Nat.le_succ _)) hbp); have T3 := Aside0.mk (blk_below (blk_far (p := ⟨w.heap.size + 1, 1, none⟩) (blk_put R3.out 1 _ (cs' := #[.int .i64 va0, .int .i64 va1, .bool c2, .bool c3]) rfl) n01 _) hbp); have T4 := Aside0.mk (blk_below (blk_put (blk_far (p := ⟨w.heap.size, 1, none⟩) R4.out n10 _) 1 _ (cs' := #[.int .i64 vb0, .int .i64 vb1, .bool d2, .bool d3]) rfl) hbp); have T5 := Aside0.mk (blk_below (blk_far (p := ⟨w.heap.size + 1, 1, none⟩) (blk_far (p := ⟨w.heap.size, 1, none⟩) R5.out n20 _) n21 _) hbp); have T6 := Aside0.mk (blk_below (blk_far (p := ⟨w.heap.size + 1, 1, none⟩) (blk_far (p := ⟨w.heap.size, 1, none⟩) R6.out n30 _) n31 _) hbp); clear hb hbp he))
 have E3 := Aside0.mk (blk_drew T3.out)
 have E4 := Aside0.mk (blk_drew T4.out)
 have E5 := Aside0.mk (blk_drew T5.out)
 have E6 := Aside0.mk (blk_drew T6.out)
 refine start_ (n := 6) (S := (fun w' => w'.heap[w.heap.size]? = some (.cells #[.int .i64 va0, .int .i64 va1, .bool c2, .bool c3] 30 (0, 0)) ∧ w'.heap[w.heap.size + 1]? = some (.cells #[.int .i64 vb0, .int .i64 vb1, .bool d2, .bool d3] 30 (0, 0)))) (ds := []) (Array.replicate 6 false) (by kernel_rfl) rfl rfl ⟨E3.out, E4.out⟩ (fun hHeld => ?_)
 refine with_tabW moving2.tab5 moving2.bits5 (fun HT_ HW_ => ?_)
 refine pz 2 47 HT_ ?_
 refine tz 0 45 HT_ HW_ (hr := (by rintro w' s0; have q1 := fun i => blk_cell s0.1 i; have q2 := fun i => blk_cell s0.2 i; go_simp; with_reducible rfl)) (hS := hHeld) (h := ?_)
 refine tz 1 46 HT_ HW_ (hr := (by rintro w' s0; have q1 := fun i => blk_cell s0.1 i; have q2 := fun i => blk_cell s0.2 i; go_simp; with_reducible rfl)) (hS := hHeld) (h := ?_)
 refine oneI 3 none HT_ rfl rfl (by kernel_rfl) (by decide) (fun K hK => ?_)
 refine skip_ (by rfl) rfl (rowSkip (ty := 30) (x := .tmp 5) (y := .tmp 45) (g := w.heap.size + 2) (cs := #[.int .i64 va0, .int .i64 va1, .bool c2, .bool c3]) rfl rfl rfl E5.out (by kernel_rfl) rfl rfl) ?_
 refine hK.out _ _ ⟨rowOther _ E3.out (g := w.heap.size + 2) (by omega), rowOther _ E4.out (g := w.heap.size + 2) (by omega)⟩ (fun hHeld => ?_)
 clear hK K
 -- norm_
 refine oneI 4 none HT_ rfl rfl (by kernel_rfl) (by decide) (fun K hK => ?_)
 refine skip_ (by rfl) rfl (rowSkip (ty := 30) (x := .tmp 6) (y := .tmp 46) (g := w.heap.size + 3) (cs := #[.int .i64 vb0, .int .i64 vb1, .bool d2, .bool d3]) rfl rfl rfl (rowOther #[.int .i64 va0, .int .i64 va1, .bool c2, .bool c3] E6.out (g := w.heap.size + 2) (by omega)) (by kernel_rfl) rfl rfl) ?_
 refine hK.out _ _ ⟨rowOther _ (rowOther _ E3.out (g := w.heap.size + 2) (by omega)) (g := w.heap.size + 3) (by omega), rowOther _ (rowOther _ E4.out (g := w.heap.size + 2) (by omega)) (g := w.heap.size + 3) (by omega)⟩ (fun hHeld => ?_)
 clear hK K
 -- norm_
 refine pz 5 7 HT_ ?_
 refine done_ (done_of HT_.out (by kernel_rfl)) ?_
 go_wp2
 refine bodyPost_ret (results_cct rfl _ _ (w.heap.size + 2) (w.heap.size + 3) 30 30 #[.int .i64 va0, .int .i64 va1, .bool c2, .bool c3] #[.int .i64 vb0, .int .i64 vb1, .bool d2, .bool d3] (0, 0) (0, 0) _ _ rfl (rowOther #[.int .i64 vb0, .int .i64 vb1, .bool d2, .bool d3] (setRow_heap _ _ _ #[.int .i64 va0, .int .i64 va1, .bool c2, .bool c3] _ _ E5.out) (g := w.heap.size + 3) (by omega)) Tryz.underlying30 rfl (by kernel_rfl) rfl (setRow_heap _ _ _ #[.int .i64 vb0, .int .i64 vb1, .bool d2, .bool d3] _ _ (rowOther #[.int .i64 va0, .int .i64 va1, .bool c2, .bool c3] E6.out (g := w.heap.size + 2) (by omega))) Tryz.underlying30 rfl (by kernel_rfl)) rfl ?_
 exact ⟨rfl, rowBelow (rowBelow (below_drew1 HB4.out) (by omega) _) (by omega) _⟩
theorem moving_calls (a b d : Int) (w : World) :
  Calls Tryz.prog 38 #[.agg (edA a b d)] w fun e w' => e = .returned (wayV2 (ptrV w.heap.size)) ∧ w'.heap[w.heap.size]? = some (.cells (edA a b d) 47 (0, 0)) ∧ Below w.heap.size w w' := by
 go_enter Tryz.func38, Tryz.ntmps38
 go_wp2
 refine bodyPost_ret (results_cell_row rfl _ _ (w.heap.size + 1) 76 _ (0, 0) _ rfl (newBlk2 w _ _) Tryz.underlying76 rfl (by kernel_rfl)) rfl ?_
 exact ⟨rfl, blk_alloc (newBlk w _) _, bel2 w _ _⟩
theorem rows6 (a b d : Int) : foolscapref06_Rows.f a b d = some (rowsB a) := by
 unfold foolscapref06_Rows.f rowsB
 by_cases h : a = 1 <;> simp [h]
theorem most6 (a b d : Int) : foolscapref06_most.f a b d = some (mostI a) := by
 unfold foolscapref06_most.f mostI
 rw [rows6]
 cases rowsB a <;> rfl
theorem right6 (a b c : Int) : foolscapref06_Right.f a b c = some (edB a b c) := by
 have hm := mostI_bd a
 unfold foolscapref06_Right.f edB
 rw [most6]
 generalize mostI a = m at hm ⊢
 by_cases h1 : a ≥ 1
 ·rw [if_pos h1, decide_eq_true (show 1 ≤ a from h1)]
  by_cases h2 : a ≤ 4
  ·rw [if_pos h2, decide_eq_true h2]
   by_cases h3 : b ≥ 1
   ·rw [if_pos h3, decide_eq_true (show 1 ≤ b from h3)]
    simp only [Option.bind_some]
    by_cases h4 : b ≤ m
    ·rw [if_pos h4, decide_eq_true h4]
     by_cases h5 : c ≥ 1
     ·rw [if_pos h5, decide_eq_true (show 1 ≤ c from h5)]
      have e1 : wrap64 (m - b) = m - b := by unfold wrap64; omega
      have e2 : wrap64 (m - b + 1) = m - b + 1 := by unfold wrap64; omega
      rw [e1, e2]
      rfl
     ·rw [if_neg h5, decide_eq_false (show ¬1 ≤ c from h5)]; rfl
    ·rw [if_neg h4, decide_eq_false h4]; rfl
   ·rw [if_neg h3, decide_eq_false (show ¬1 ≤ b from h3)]; rfl
  ·rw [if_neg h2, decide_eq_false h2]; rfl
 ·rw [if_neg h1, decide_eq_false (show ¬1 ≤ a from h1)]; rfl
theorem check6 (a b c : Int) : foolscapref06_Check.f a b c = some (if edB a b c = true then 0 else 2) := by
 unfold foolscapref06_Check.f
 rw [right6]
 cases edB a b c <;> rfl
theorem ed_bd {a b c : Int} (h : edB a b c = true) : 1 ≤ a ∧ a ≤ 4 ∧ 1 ≤ b ∧ b ≤ mostI a ∧ 1 ≤ c ∧ c ≤ mostI a - b + 1 ∧ mostI a ≤ 1048576 := by
 have hm := mostI_bd a
 simp only [edB, Bool.and_eq_true, decide_eq_true_eq] at h
 omega
theorem line6 {a b c n : Int} (h : edB a b c = true) (h1 : 1 ≤ n) (h2 : n ≤ 2000000) (k : Nat) : foolscapref06_line.f (k + 1) a b c n = some (if stepF a b c n = 0 then stepV a b c n else 0, stepF a b c n) := by
 obtain ⟨-, -, hb1, hb2, hc1, hc2, hm⟩ := ed_bd h
 have e1 : wrap64 (n + c) = n + c := by unfold wrap64; omega
 have e2 : wrap64 (n - c) = n - c := by unfold wrap64; omega
 have e3 : wrap64 (b + c) = b + c := by unfold wrap64; omega
 have hj : ∀ t : Bool, foolscapref06_line.j0 (k + 1) n t a b c = if t = true then (if n + c > mostI a then some (0, 2) else some (n + c, 0)) else (if n < b + c then some (0, 1) else some (n - c, 0)) := by
  intro t
  rw [foolscapref06_line.j0, most6, e1, e2, e3]
  rfl
 have hF : stepF a b c n = if n < b then 0 else if insB a = true then (if n + c > mostI a then 2 else 0) else (if n - c < b then 1 else 0) := by
  unfold stepF; rw [i64_w, i64_w, e1, e2]
 have hV : stepV a b c n = if n < b then n else if insB a = true then n + c else n - c := by
  unfold stepV; rw [i64_w, i64_w, e1, e2]
 unfold foolscapref06_line.f
 rw [hj, hj, hF, hV]
 by_cases q : n < b
 ·simp only [if_pos q, if_true]
 simp only [if_neg q]
 by_cases q1 : a = 1
 ·have hi : insB a = true := by simp [insB, q1]
  simp only [if_pos q1, hi, if_true]
  by_cases z : n + c > mostI a
  ·simp only [if_pos z]; rfl
  ·simp only [if_neg z]; rfl
 ·simp only [if_neg q1]
  by_cases q3 : a = 3
  ·have hi : insB a = true := by simp [insB, q3]
   simp only [show (a == 3) = true by simp [q3], hi, if_true]
   by_cases z : n + c > mostI a
   ·simp only [if_pos z]; rfl
   ·simp only [if_neg z]; rfl
  ·have hi : insB a = false := by simp [insB, q1, q3]
   simp only [show (a == 3) = false by simp [q3], hi, Bool.false_eq_true, if_false]
   by_cases z : n < b + c
   ·have z2 : n - c < b := by omega
    simp only [if_pos z, if_pos z2]; rfl
   ·have z2 : ¬n - c < b := by omega
    simp only [if_neg z, if_neg z2]; rfl
theorem ends6 {a b c f l : Int} (h : edB a b c = true) (h1 : 1 ≤ f) (h2 : f ≤ l) (h3 : l ≤ mostI a) : foolscapref06_ends.f 2 a b c f l = some (if ((leftS a b c f l).1 == 0 && ((leftS a b c f l).2 == 0)) = true then (0, 0, false) else ((leftS a b c f l).1, (leftS a b c f l).2, true)) := by
 obtain ⟨-, -, hb1, hb2, hc1, hc2, hm⟩ := ed_bd h
 have e3 : wrap64 (b + c) = b + c := by unfold wrap64; omega
 have e4 : wrap64 (b - 1) = b - 1 := by unfold wrap64; omega
 have ef1 : wrap64 (f + c) = f + c := by unfold wrap64; omega
 have ef2 : wrap64 (f - c) = f - c := by unfold wrap64; omega
 have el1 : wrap64 (l + c) = l + c := by unfold wrap64; omega
 have el2 : wrap64 (l - c) = l - c := by unfold wrap64; omega
 have eb1 : wrap64 (b + c + c) = b + c + c := by unfold wrap64; omega
 have eb2 : wrap64 (b + c - c) = b := by unfold wrap64; omega
 have nz : ∀ x y : Int, x ≠ 0 → ¬(x == 0 && (y == 0)) = true := fun x y q => by simp [q]
 have hj : ∀ x y : Int, foolscapref06_ends.j0 2 f l x y a b c = if y = 2 then some (0, 0, false) else (if stepF a b c l = 1 then some (x, b - 1, true) else if stepF a b c l = 2 then (if f < b then (if b + c > mostI a then some (x, b - 1, true) else some (x, mostI a, true)) else some (x, mostI a, true)) else some (x, if stepF a b c l = 0 then stepV a b c l else 0, true)) := by
  intro x y
  rw [foolscapref06_ends.j0, line6 h (by omega) (by omega) 0, most6, e3, e4]
  rfl
 have hf : foolscapref06_ends.f 2 a b c f l = (if stepF a b c f = 1 then (if l < b + c then some (0, 0, false) else (foolscapref06_line.f 2 a b c (b + c)).bind fun q => foolscapref06_ends.j0 2 f l q.1 q.2 a b c) else foolscapref06_ends.j0 2 f l (if stepF a b c f = 0 then stepV a b c f else 0) (stepF a b c f) a b c) := by
  unfold foolscapref06_ends.f
  rw [line6 h h1 (by omega) 1, e3]
  rfl
 rw [hf]
 cases hi : insB a with
 | true =>
  have hl : leftS a b c f l = if stepF a b c f = 2 then (0, 0) else if stepF a b c l = 2 then (stepV a b c f, if b + c > mostI a then b - 1 else mostI a) else (stepV a b c f, stepV a b c l) := by
   unfold leftS; rw [hi, e3, e4]; rfl
  have F : ∀ n, stepF a b c n = if n < b then 0 else if wrap64 (n + c) > mostI a then 2 else 0 := fun n => by unfold stepF; rw [hi, i64_w]; rfl
  have V : ∀ n, stepV a b c n = if n < b then n else wrap64 (n + c) := fun n => by unfold stepV; rw [hi, i64_w]; rfl
  have Ff := F f
  have Fl := F l
  have Vf := V f
  have Vl := V l
  rw [ef1] at Ff Vf
  rw [el1] at Fl Vl
  rw [hl]
  by_cases a1 : f < b
  ·rw [if_pos a1] at Ff Vf
   simp only [Ff, Vf, hj, show ¬(0 : Int) = 1 by omega, show ¬(0 : Int) = 2 by omega, if_false, if_true]
   by_cases a2 : l < b
   ·rw [if_pos a2] at Fl Vl
    simp only [Fl, Vl, show ¬(0 : Int) = 1 by omega, show ¬(0 : Int) = 2 by omega, if_false, if_true, if_neg (nz f l (by omega))]
   ·rw [if_neg a2] at Fl Vl
    by_cases a3 : l + c > mostI a
    ·rw [if_pos a3] at Fl
     simp only [Fl, show ¬(2 : Int) = 1 by omega, if_false, if_true, if_pos a1, if_neg (nz f _ (by omega))]
     by_cases a4 : b + c > mostI a
     ·simp only [if_pos a4]
     ·simp only [if_neg a4]
    ·rw [if_neg a3] at Fl
     simp only [Fl, Vl, show ¬(0 : Int) = 1 by omega, show ¬(0 : Int) = 2 by omega, if_false, if_true, if_neg (nz f _ (by omega))]
  ·rw [if_neg a1] at Ff Vf
   by_cases a0 : f + c > mostI a
   ·rw [if_pos a0] at Ff
    simp only [Ff, hj, show ¬(2 : Int) = 1 by omega, show ¬(2 : Int) = 0 by omega, if_false, if_true]
    rfl
   ·rw [if_neg a0] at Ff
    have a2 : ¬l < b := by omega
    rw [if_neg a2] at Fl Vl
    simp only [Ff, Vf, hj, show ¬(0 : Int) = 1 by omega, show ¬(0 : Int) = 2 by omega, if_false, if_true, if_neg a1]
    by_cases a3 : l + c > mostI a
    ·rw [if_pos a3] at Fl
     have a4 : ¬b + c > mostI a := by omega
     simp only [Fl, show ¬(2 : Int) = 1 by omega, if_false, if_true, if_neg a4, if_neg (nz (f + c) _ (by omega))]
    ·rw [if_neg a3] at Fl
     simp only [Fl, Vl, show ¬(0 : Int) = 1 by omega, show ¬(0 : Int) = 2 by omega, if_false, if_true, if_neg (nz (f + c) _ (by omega))]
 | false =>
  have hl : leftS a b c f l = if b ≤ f ∧ l < b + c then (0, 0) else (downV b c (b + c) f b, downV b c (b + c) l (b - 1)) := by
   unfold leftS; rw [hi, e3, i64_w, e4]; rfl
  have hd : ∀ n i, downV b c (b + c) n i = if n < b then n else if n < b + c then i else wrap64 (n - c) := fun n i => rfl
  have F : ∀ n, stepF a b c n = if n < b then 0 else if wrap64 (n - c) < b then 1 else 0 := fun n => by unfold stepF; rw [hi, i64_w, i64_w]; rfl
  have V : ∀ n, stepV a b c n = if n < b then n else wrap64 (n - c) := fun n => by unfold stepV; rw [hi, i64_w, i64_w]; rfl
  have Ff := F f
  have Fl := F l
  have Vf := V f
  have Vl := V l
  have Fb := F (b + c)
  have Vb := V (b + c)
  rw [ef2] at Ff Vf
  rw [el2] at Fl Vl
  have nb : ¬b + c < b := by omega
  rw [eb2, if_neg nb] at Fb Vb
  rw [if_neg (Int.lt_irrefl b)] at Fb
  have z6 := line6 h (n := b + c) (by omega) (by omega) 1
  rw [Fb, Vb] at z6
  rw [hl, hd, hd, ef2, el2]
  by_cases a1 : f < b
  ·rw [if_pos a1] at Ff Vf
   simp only [Ff, Vf, hj, show ¬(0 : Int) = 1 by omega, show ¬(0 : Int) = 2 by omega, if_false, if_true, if_pos a1, if_neg (show ¬(b ≤ f ∧ l < b + c) by omega), if_neg (nz f _ (by omega))]
   by_cases a2 : l < b
   ·rw [if_pos a2] at Fl Vl
    simp only [Fl, Vl, show ¬(0 : Int) = 1 by omega, show ¬(0 : Int) = 2 by omega, if_false, if_true, if_pos a2]
   ·rw [if_neg a2] at Fl Vl
    by_cases a3 : l < b + c
    ·rw [if_pos (show l - c < b by omega)] at Fl
     simp only [Fl, if_true, if_neg a2, if_pos a3]
    ·rw [if_neg (show ¬l - c < b by omega)] at Fl
     simp only [Fl, Vl, show ¬(0 : Int) = 1 by omega, show ¬(0 : Int) = 2 by omega, if_false, if_true, if_neg a2, if_neg a3]
  ·rw [if_neg a1] at Ff Vf
   have a2 : ¬l < b := by omega
   rw [if_neg a2] at Fl Vl
   by_cases a0 : f < b + c
   ·rw [if_pos (show f - c < b by omega)] at Ff
    by_cases a3 : l < b + c
    ·simp only [Ff, if_true, if_pos a3, if_pos (show b ≤ f ∧ l < b + c by omega)]
     rfl
    ·rw [if_neg (show ¬l - c < b by omega)] at Fl
     simp only [Ff, if_true, if_neg a3, if_neg (show ¬(b ≤ f ∧ l < b + c) by omega), z6, Option.bind_some, hj, Fl, Vl, show ¬(0 : Int) = 1 by omega, show ¬(0 : Int) = 2 by omega, if_false, if_neg a1, if_pos a0, if_neg a2, if_neg (nz b _ (by omega))]
   ·rw [if_neg (show ¬f - c < b by omega)] at Ff
    rw [if_neg (show ¬l - c < b by omega)] at Fl
    have a3 : ¬l < b + c := by omega
    simp only [Ff, Vf, hj, Fl, Vl, show ¬(0 : Int) = 1 by omega, show ¬(0 : Int) = 2 by omega, if_false, if_true, if_neg a1, if_neg a0, if_neg a2, if_neg a3, if_neg (show ¬(b ≤ f ∧ l < b + c) by omega), if_neg (nz (f - c) _ (by omega))]
end Go.Proofs.YthnldbclbfpojaaGreatDoor.Pr
end
