/-
  What the law RShiftsRAlikeRKeeps leans on, out of the texts that were printed and written for this seat: only what its proof mentions (gathered by a program of the author's).
-/
import Derived.Test.YthnldbclbfpojaaGreatDoorSRShiftsRAlikeRKeeps22
import Derived.Test.YthnldbclbfpojaaGreatDoorSRShiftsRAlikeRKeeps13
set_option maxHeartbeats 8000000
set_option maxRecDepth 100000
set_option linter.unusedVariables false
set_option linter.unusedSimpArgs false
section
namespace Go.Proofs.YthnldbclbfpojaaGreatDoor.Pr
open Go.RowKit Go.Proofs.YthnldbclbfpojaaGreatDoorW.PrintWords Go.Proofs.YthnldbclbfpojaaGreatDoorW.PrintLast Go.Proofs.YthnldbclbfpojaaGreatDoorW.PrintMore
theorem allS_kid {C : Nd → Bool} {n : Nd} (h : allS C n = true) : C n = true ∧ ∀ x ∈ n.f5, allS C x = true := by
 rw [allS_eq, Bool.and_eq_true] at h
 refine ⟨h.1, ?_⟩
 have h2 := h.2
 generalize n.f5 = l at h2
 induction l with
 | nil => intro x hx; cases hx
 | cons y r ih =>
  rw [allL, Bool.and_eq_true] at h2
  intro x hx
  cases hx with
  | head => exact h2.1
  | tail _ hx => exact ih h2.2 x hx
theorem kidsF_nil (W : World) (b : Nat) (A : Option Addr) (c : Nat) : KidsF W b A c [] := ⟨Nat.zero_le _, fun W' _ => ⟨rfl, by simp, fun h => absurd h (Nat.lt_irrefl 0)⟩⟩
mutual
/-- a formula with its cells and its ranges changed; none: it is lost. -/
def wayS (C : Ce → Option Ce) (D : Ce → Ce → Option (Ce × Ce)) : Nd → Nd
 | ⟨a, v, c, t, s, l⟩ =>
  if a = 2 then (match C c with | some c' => ⟨a, v, c', t, s, wayL C D l⟩ | none => lostN)
  else if a = 3 then (match D c t with | some p => ⟨a, v, p.1, p.2, s, wayL C D l⟩ | none => lostN)
  else ⟨a, v, c, t, s, wayL C D l⟩
def wayL (C : Ce → Option Ce) (D : Ce → Ce → Option (Ce × Ce)) : List Nd → List Nd
 | [] => []
 | x :: r => wayS C D x :: wayL C D r
end
theorem wayL_eq (C : Ce → Option Ce) (D : Ce → Ce → Option (Ce × Ce)) : ∀ l, wayL C D l = l.map (wayS C D)
 | [] => by rw [wayL]; rfl
 | x :: r => by rw [wayL, wayL_eq C D r]; rfl
theorem wayS_eq (C : Ce → Option Ce) (D : Ce → Ce → Option (Ce × Ce)) (n : Nd) : wayS C D n =
  if n.f0 = 2 then (match C n.f2 with | some c' => ⟨n.f0, n.f1, c', n.f3, n.f4, n.f5.map (wayS C D)⟩ | none => lostN)
  else if n.f0 = 3 then (match D n.f2 n.f3 with | some p => ⟨n.f0, n.f1, p.1, p.2, n.f4, n.f5.map (wayS C D)⟩ | none => lostN)
  else withK n (n.f5.map (wayS C D)) := by
 cases n
 rw [wayS, wayL_eq]
 rfl
def slid1 (r k : Int) (c : Ce) : Option Ce := if cellB (slidC r k c) = true then some (slidC r k c) else none
def slid2 (r k : Int) (a b : Ce) : Option (Ce × Ce) := if cellB (slidC r k a) = true ∧ cellB (slidC r k b) = true then some (slidC r k a, slidC r k b) else none
def slideS (r k : Int) (n : Nd) : Nd := wayS (slid1 r k) (slid2 r k) n
def leafB (n : Nd) : Bool := decide (n.f5.length ≤ 4096) && (decide (n.f0 ≠ 2 ∧ n.f0 ≠ 3) || decide (n.f5.length = 0))
def refSlide.T12 : Bool × List (List Nat × List Nat) := (true, [([], []), ([], []), ([0], []), ([2, 0, 0], [0, 2]), ([0, 1, 2, 3], []), ([4, 1, 3, 0, 1, 2, 3], [1, 4])])
def refSlide.B12 : List Nat := [0, 0, 1, 5, 15, 31]
theorem refSlide.tab12 : rtab .any (opsOf Tryz.f34 12) = refSlide.T12 := by kernel_rfl
theorem refSlide.bits12 : waitsOk refSlide.T12.2 refSlide.B12 = true := by kernel_rfl
theorem leaf_nil {n : Nd} (h : leafB n = true) (h2 : n.f0 = 2 ∨ n.f0 = 3) : n.f5 = [] := by
 simp only [leafB, Bool.and_eq_true, Bool.or_eq_true, decide_eq_true_eq] at h
 exact List.eq_nil_of_length_eq_zero (by omega)
theorem slide_cell_some (r k : Int) (f1 : S26) (f2 f3 : Ce) (f4 : ByteArray) (A : Option Addr) (c : Nat) (w : World) (hq : cellB (slidC r k f2) = true) :
  Calls Tryz.prog 34 #[nodeV ⟨2, f1, f2, f3, f4, []⟩ A c, .int .i64 r, .int .i64 k] w (NodeOut ⟨2, f1, slidC r k f2, f3, f4, []⟩ w) := by
 have hne : w.heap.size + 1 ≠ w.heap.size := by omega
 go_enter Tryz.func34, Tryz.ntmps34
 go_wp2_with (first
  | (go_at_call 59; (with_reducible refine (slid_calls f2 r k _).mono ?_); rintro e w1 ⟨rfl, hb⟩; have HB1 := Aside0.mk (below_step (bel2 w _ _) hb); have B3 := Aside0.mk (blk_below (blk_alloc (newBlk w (.cells (nodeA ⟨2, f1, f2, f3, f4, []⟩ A c) 33)) (.cells (nodeA zeroN none 0) 33)) hb); have B6 := Aside0.mk (blk_below (newBlk2 w (.cells (nodeA ⟨2, f1, f2, f3, f4, []⟩ A c) 33) (.cells (nodeA zeroN none 0) 33)) hb); have hc := fun (o : Obj) (i : Nat) => blk_cell (blk_alloc B3.out o) i; clear hb)
  | (go_at_call 59; (with_reducible refine (slid_calls f3 r k _).mono ?_); rintro e w2 ⟨rfl, hb⟩; have HB2 := Aside0.mk (below_step (below_alloc HB1.out _) hb); have C3 := Aside0.mk (blk_below (blk_alloc B3.out (.cells (cellA (slidC r k f2)) 30)) hb); have C6 := Aside0.mk (blk_below (blk_alloc B6.out (.cells (cellA (slidC r k f2)) 30)) hb); have C7 := Aside0.mk (blk_below (newBlk w1 (.cells (cellA (slidC r k f2)) 30)) hb); have hn7 : w1.heap.size ≠ w.heap.size := (by have := blk_lt B3.out; omega); clear hc B3 B6 hb; have hc := fun (o : Obj) (i : Nat) => blk_cell (blk_alloc C3.out o) i; have hf := fun (o : Obj) (i : Nat) => blk_frozen (blk_alloc C3.out o) i; have hc7 := fun (o : Obj) (i : Nat) => blk_cell (blk_alloc C7.out o) i)
  | ((with_reducible refine gate_store (t := 33) (p := 6) (v := .tmp 38) rfl ?_); refine wpRowSt rfl 33 (.tmp 6) (.tmp 38) rfl (w.heap.size + 1) (nodeA ⟨2, f1, slidC r k f2, f3, f4, []⟩ A c) rfl rfl 33 _ (blk_far (p := ⟨w.heap.size, 9, none⟩) (blk_far (p := ⟨w.heap.size, 8, none⟩) (blk_far (p := ⟨w.heap.size, 7, none⟩) (blk_far (p := ⟨w.heap.size, 6, none⟩) (blk_alloc C6.out _) hne _) hne _) hne _) hne _) (by kernel_rfl) rfl rfl ?_))
 refine bodyPost_ret (results_cell_row rfl _ _ (w.heap.size + 1) 33 (nodeA ⟨2, f1, slidC r k f2, f3, f4, []⟩ A c) (0, 0) _ rfl (setRow_heap _ _ _ _ _ _ (blk_far (p := ⟨w.heap.size, 9, none⟩) (blk_far (p := ⟨w.heap.size, 8, none⟩) (blk_far (p := ⟨w.heap.size, 7, none⟩) (blk_far (p := ⟨w.heap.size, 6, none⟩) (blk_alloc C6.out _) hne _) hne _) hne _) hne _)) Tryz.underlying33 rfl (by kernel_rfl)) rfl ?_
 exact ⟨A, c, rfl, kidsF_nil _ _ _ _, rowBelow (below_set (below_set (below_set (below_set (below_alloc HB2.out _) (Nat.le_refl _)) (Nat.le_refl _)) (Nat.le_refl _)) (Nat.le_refl _)) (by omega) _⟩
theorem slide_cell_none (r k : Int) (f1 : S26) (f2 f3 : Ce) (f4 : ByteArray) (A : Option Addr) (c : Nat) (w : World) (hq : cellB (slidC r k f2) = false) :
  Calls Tryz.prog 34 #[nodeV ⟨2, f1, f2, f3, f4, []⟩ A c, .int .i64 r, .int .i64 k] w (NodeOut lostN w) := by
 have hne : w.heap.size + 1 ≠ w.heap.size := by omega
 go_enter Tryz.func34, Tryz.ntmps34
 go_wp2_with (first
  | (go_at_call 59; (with_reducible refine (slid_calls f2 r k _).mono ?_); rintro e w1 ⟨rfl, hb⟩; have HB1 := Aside0.mk (below_step (bel2 w _ _) hb); have B3 := Aside0.mk (blk_below (blk_alloc (newBlk w (.cells (nodeA ⟨2, f1, f2, f3, f4, []⟩ A c) 33)) (.cells (nodeA zeroN none 0) 33)) hb); have B6 := Aside0.mk (blk_below (newBlk2 w (.cells (nodeA ⟨2, f1, f2, f3, f4, []⟩ A c) 33) (.cells (nodeA zeroN none 0) 33)) hb); have hc := fun (o : Obj) (i : Nat) => blk_cell (blk_alloc B3.out o) i; clear hb)
  | (go_at_call 59; (with_reducible refine (slid_calls f3 r k _).mono ?_); rintro e w2 ⟨rfl, hb⟩; have HB2 := Aside0.mk (below_step (below_alloc HB1.out _) hb); have C3 := Aside0.mk (blk_below (blk_alloc B3.out (.cells (cellA (slidC r k f2)) 30)) hb); have C6 := Aside0.mk (blk_below (blk_alloc B6.out (.cells (cellA (slidC r k f2)) 30)) hb); have C7 := Aside0.mk (blk_below (newBlk w1 (.cells (cellA (slidC r k f2)) 30)) hb); have hn7 : w1.heap.size ≠ w.heap.size := (by have := blk_lt B3.out; omega); clear hc B3 B6 hb; have hc := fun (o : Obj) (i : Nat) => blk_cell (blk_alloc C3.out o) i; have hf := fun (o : Obj) (i : Nat) => blk_frozen (blk_alloc C3.out o) i; have hc7 := fun (o : Obj) (i : Nat) => blk_cell (blk_alloc C7.out o) i)
  | (go_at_call 60; (with_reducible refine (refLost_calls _).mono ?_); rintro e w3 ⟨rfl, hb⟩; have HB3 := Aside0.mk (below_step (below_alloc HB2.out _) hb); have D6 := Aside0.mk (blk_below (blk_alloc C6.out (.cells (cellA (slidC r k f3)) 30)) hb); clear hb)
  | ((with_reducible refine gate_store (t := 33) (p := 6) (v := .tmp 35) rfl ?_); refine wpRowSt rfl 33 (.tmp 6) (.tmp 35) rfl (w.heap.size + 1) (nodeA lostN none 0) rfl rfl 33 _ D6.out (by kernel_rfl) rfl rfl ?_))
 refine bodyPost_ret (results_cell_row rfl _ _ (w.heap.size + 1) 33 (nodeA lostN none 0) (0, 0) _ rfl (setRow_heap _ _ _ _ _ _ D6.out) Tryz.underlying33 rfl (by kernel_rfl)) rfl ?_
 exact ⟨none, 0, rfl, kidsF_nil _ _ _ _, rowBelow HB3.out (by omega) _⟩
theorem slide_range_some (r k : Int) (f1 : S26) (f2 f3 : Ce) (f4 : ByteArray) (A : Option Addr) (c : Nat) (w : World) (hq : cellB (slidC r k f2) = true) (hp : cellB (slidC r k f3) = true) :
  Calls Tryz.prog 34 #[nodeV ⟨3, f1, f2, f3, f4, []⟩ A c, .int .i64 r, .int .i64 k] w (NodeOut ⟨3, f1, slidC r k f2, slidC r k f3, f4, []⟩ w) := by
 have hne : w.heap.size + 1 ≠ w.heap.size := by omega
 go_enter Tryz.func34, Tryz.ntmps34
 go_wp2_with (first
  | (go_at_call 59; (with_reducible refine (slid_calls f2 r k _).mono ?_); rintro e w1 ⟨rfl, hb⟩; have HB1 := Aside0.mk (below_step (bel2 w _ _) hb); have B3 := Aside0.mk (blk_below (blk_alloc (newBlk w (.cells (nodeA ⟨3, f1, f2, f3, f4, []⟩ A c) 33)) (.cells (nodeA zeroN none 0) 33)) hb); have B6 := Aside0.mk (blk_below (newBlk2 w (.cells (nodeA ⟨3, f1, f2, f3, f4, []⟩ A c) 33) (.cells (nodeA zeroN none 0) 33)) hb); have hc := fun (o : Obj) (i : Nat) => blk_cell (blk_alloc B3.out o) i; clear hb)
  | (go_at_call 59; (with_reducible refine (slid_calls f3 r k _).mono ?_); rintro e w2 ⟨rfl, hb⟩; have HB2 := Aside0.mk (below_step (below_alloc HB1.out _) hb); have C3 := Aside0.mk (blk_below (blk_alloc B3.out (.cells (cellA (slidC r k f2)) 30)) hb); have C6 := Aside0.mk (blk_below (blk_alloc B6.out (.cells (cellA (slidC r k f2)) 30)) hb); have C7 := Aside0.mk (blk_below (newBlk w1 (.cells (cellA (slidC r k f2)) 30)) hb); have hn7 : w1.heap.size ≠ w.heap.size := (by have := blk_lt B3.out; omega); clear hc B3 B6 hb; have hc := fun (o : Obj) (i : Nat) => blk_cell (blk_alloc C3.out o) i; have hf := fun (o : Obj) (i : Nat) => blk_frozen (blk_alloc C3.out o) i; have hc7 := fun (o : Obj) (i : Nat) => blk_cell (blk_alloc C7.out o) i))
 clear hc7
 have hn9 : w2.heap.size ≠ w.heap.size := by have := blk_lt C3.out; omega
 refine start_ (n := 6) (S := (fun w' => w'.heap[w1.heap.size]? = some (.cells (cellA (slidC r k f2)) 30 (0, 0)) ∧ w'.heap[w2.heap.size]? = some (.cells (cellA (slidC r k f3)) 30 (0, 0)))) (ds := [5]) (Array.replicate 6 false) (by kernel_rfl) rfl rfl ⟨blk_drew (blk_alloc C7.out _), blk_drew (newBlk w2 _)⟩ (fun hHeld => ?_)
 refine with_tabW refSlide.tab12 refSlide.bits12 (fun HT_ HW_ => ?_)
 refine tz 0 48 HT_ HW_ (hr := (by rintro w' s0; have q7 := fun i => blk_cell s0.1 i; have q9 := fun i => blk_cell s0.2 i; go_simp; with_reducible rfl)) (hS := hHeld) (h := ?_)
 refine pz 2 50 HT_ ?_
 refine tz 1 49 HT_ HW_ (hr := (by rintro w' s0; have q7 := fun i => blk_cell s0.1 i; have q9 := fun i => blk_cell s0.2 i; go_simp; with_reducible rfl)) (hS := hHeld) (h := ?_)
 refine oneI 3 none HT_ rfl rfl (by kernel_rfl) (by decide) (fun K hK => ?_)
 refine skip_ (w1 := ?_) (by rfl) rfl ?_ ?_
 rotate_left
 ·go_simp
  rfl
 refine hK.out _ _ ⟨blk_drew (blk_far (p := ⟨w.heap.size, 9, none⟩) (blk_far (p := ⟨w.heap.size, 8, none⟩) (blk_far (p := ⟨w.heap.size, 7, none⟩) (blk_far (p := ⟨w.heap.size, 6, none⟩) (blk_alloc C7.out _) hn7 _) hn7 _) hn7 _) hn7 _), blk_drew (blk_far (p := ⟨w.heap.size, 9, none⟩) (blk_far (p := ⟨w.heap.size, 8, none⟩) (blk_far (p := ⟨w.heap.size, 7, none⟩) (blk_far (p := ⟨w.heap.size, 6, none⟩) (newBlk w2 (.cells (cellA (slidC r k f3)) 30)) hn9 _) hn9 _) hn9 _) hn9 _)⟩ (fun hHeld => ?_)
 clear hK K
 -- norm_
 refine pz 4 51 HT_ ?_
 refine lastI 5 none HT_ rfl rfl (by kernel_rfl) (by decide) (fun K hK => ?_)
 refine skip_ (w1 := ?_) (by rfl) rfl ?_ ?_
 rotate_left
 ·go_simp
  rfl
 refine hK.out _ _ ?_
 clear hK K
 -- norm_
 refine done_ (done_of HT_.out (by kernel_rfl)) ?_
 go_wp2_with (((with_reducible refine gate_store (t := 33) (p := 6) (v := .tmp 52) rfl ?_); refine wpRowSt rfl 33 (.tmp 6) (.tmp 52) rfl (w.heap.size + 1) (nodeA ⟨3, f1, slidC r k f2, slidC r k f3, f4, []⟩ A c) rfl rfl 33 _ (blk_drew (blk_far (p := ⟨w.heap.size, 13, none⟩) (blk_far (p := ⟨w.heap.size, 12, none⟩) (blk_far (p := ⟨w.heap.size, 11, none⟩) (blk_far (p := ⟨w.heap.size, 10, none⟩) (blk_far (p := ⟨w.heap.size, 9, none⟩) (blk_far (p := ⟨w.heap.size, 8, none⟩) (blk_far (p := ⟨w.heap.size, 7, none⟩) (blk_far (p := ⟨w.heap.size, 6, none⟩) (blk_alloc C6.out _) hne _) hne _) hne _) hne _) hne _) hne _) hne _) hne _)) (by kernel_rfl) rfl rfl ?_))
 refine bodyPost_ret (results_cell_row rfl _ _ (w.heap.size + 1) 33 (nodeA ⟨3, f1, slidC r k f2, slidC r k f3, f4, []⟩ A c) (0, 0) _ rfl (setRow_heap _ _ _ _ _ _ (blk_drew (blk_far (p := ⟨w.heap.size, 13, none⟩) (blk_far (p := ⟨w.heap.size, 12, none⟩) (blk_far (p := ⟨w.heap.size, 11, none⟩) (blk_far (p := ⟨w.heap.size, 10, none⟩) (blk_far (p := ⟨w.heap.size, 9, none⟩) (blk_far (p := ⟨w.heap.size, 8, none⟩) (blk_far (p := ⟨w.heap.size, 7, none⟩) (blk_far (p := ⟨w.heap.size, 6, none⟩) (blk_alloc C6.out _) hne _) hne _) hne _) hne _) hne _) hne _) hne _) hne _))) Tryz.underlying33 rfl (by kernel_rfl)) rfl ?_
 exact ⟨A, c, rfl, kidsF_nil _ _ _ _, rowBelow (below_drew1 (below_set (below_set (below_set (below_set (below_set (below_set (below_set (below_set (below_alloc HB2.out _) (Nat.le_refl _)) (Nat.le_refl _)) (Nat.le_refl _)) (Nat.le_refl _)) (Nat.le_refl _)) (Nat.le_refl _)) (Nat.le_refl _)) (Nat.le_refl _))) (by omega) _⟩
theorem slide_range_none1 (r k : Int) (f1 : S26) (f2 f3 : Ce) (f4 : ByteArray) (A : Option Addr) (c : Nat) (w : World) (hq : cellB (slidC r k f2) = true) (hp : cellB (slidC r k f3) = false) :
  Calls Tryz.prog 34 #[nodeV ⟨3, f1, f2, f3, f4, []⟩ A c, .int .i64 r, .int .i64 k] w (NodeOut lostN w) := by
 have hne : w.heap.size + 1 ≠ w.heap.size := by omega
 go_enter Tryz.func34, Tryz.ntmps34
 go_wp2_with (first
  | (go_at_call 59; (with_reducible refine (slid_calls f2 r k _).mono ?_); rintro e w1 ⟨rfl, hb⟩; have HB1 := Aside0.mk (below_step (bel2 w _ _) hb); have B3 := Aside0.mk (blk_below (blk_alloc (newBlk w (.cells (nodeA ⟨3, f1, f2, f3, f4, []⟩ A c) 33)) (.cells (nodeA zeroN none 0) 33)) hb); have B6 := Aside0.mk (blk_below (newBlk2 w (.cells (nodeA ⟨3, f1, f2, f3, f4, []⟩ A c) 33) (.cells (nodeA zeroN none 0) 33)) hb); have hc := fun (o : Obj) (i : Nat) => blk_cell (blk_alloc B3.out o) i; clear hb)
  | (go_at_call 59; (with_reducible refine (slid_calls f3 r k _).mono ?_); rintro e w2 ⟨rfl, hb⟩; have HB2 := Aside0.mk (below_step (below_alloc HB1.out _) hb); have C3 := Aside0.mk (blk_below (blk_alloc B3.out (.cells (cellA (slidC r k f2)) 30)) hb); have C6 := Aside0.mk (blk_below (blk_alloc B6.out (.cells (cellA (slidC r k f2)) 30)) hb); have C7 := Aside0.mk (blk_below (newBlk w1 (.cells (cellA (slidC r k f2)) 30)) hb); have hn7 : w1.heap.size ≠ w.heap.size := (by have := blk_lt B3.out; omega); clear hc B3 B6 hb; have hc := fun (o : Obj) (i : Nat) => blk_cell (blk_alloc C3.out o) i; have hf := fun (o : Obj) (i : Nat) => blk_frozen (blk_alloc C3.out o) i; have hc7 := fun (o : Obj) (i : Nat) => blk_cell (blk_alloc C7.out o) i)
  | (go_at_call 60; (with_reducible refine (refLost_calls _).mono ?_); rintro e w3 ⟨rfl, hb⟩; have HB3 := Aside0.mk (below_step (below_alloc HB2.out _) hb); have D6 := Aside0.mk (blk_below (blk_alloc C6.out (.cells (cellA (slidC r k f3)) 30)) hb); clear hb)
  | ((with_reducible refine gate_store (t := 33) (p := 6) (v := .tmp 47) rfl ?_); refine wpRowSt rfl 33 (.tmp 6) (.tmp 47) rfl (w.heap.size + 1) (nodeA lostN none 0) rfl rfl 33 _ D6.out (by kernel_rfl) rfl rfl ?_))
 refine bodyPost_ret (results_cell_row rfl _ _ (w.heap.size + 1) 33 (nodeA lostN none 0) (0, 0) _ rfl (setRow_heap _ _ _ _ _ _ D6.out) Tryz.underlying33 rfl (by kernel_rfl)) rfl ?_
 exact ⟨none, 0, rfl, kidsF_nil _ _ _ _, rowBelow HB3.out (by omega) _⟩
theorem slide_range_none2 (r k : Int) (f1 : S26) (f2 f3 : Ce) (f4 : ByteArray) (A : Option Addr) (c : Nat) (w : World) (hq : cellB (slidC r k f2) = false) :
  Calls Tryz.prog 34 #[nodeV ⟨3, f1, f2, f3, f4, []⟩ A c, .int .i64 r, .int .i64 k] w (NodeOut lostN w) := by
 have hne : w.heap.size + 1 ≠ w.heap.size := by omega
 go_enter Tryz.func34, Tryz.ntmps34
 go_wp2_with (first
  | (go_at_call 59; (with_reducible refine (slid_calls f2 r k _).mono ?_); rintro e w1 ⟨rfl, hb⟩; have HB1 := Aside0.mk (below_step (bel2 w _ _) hb); have B3 := Aside0.mk (blk_below (blk_alloc (newBlk w (.cells (nodeA ⟨3, f1, f2, f3, f4, []⟩ A c) 33)) (.cells (nodeA zeroN none 0) 33)) hb); have B6 := Aside0.mk (blk_below (newBlk2 w (.cells (nodeA ⟨3, f1, f2, f3, f4, []⟩ A c) 33) (.cells (nodeA zeroN none 0) 33)) hb); have hc := fun (o : Obj) (i : Nat) => blk_cell (blk_alloc B3.out o) i; clear hb)
  | (go_at_call 59; (with_reducible refine (slid_calls f3 r k _).mono ?_); rintro e w2 ⟨rfl, hb⟩; have HB2 := Aside0.mk (below_step (below_alloc HB1.out _) hb); have C3 := Aside0.mk (blk_below (blk_alloc B3.out (.cells (cellA (slidC r k f2)) 30)) hb); have C6 := Aside0.mk (blk_below (blk_alloc B6.out (.cells (cellA (slidC r k f2)) 30)) hb); have C7 := Aside0.mk (blk_below (newBlk w1 (.cells (cellA (slidC r k f2)) 30)) hb); have hn7 : w1.heap.size ≠ w.heap.size := (by have := blk_lt B3.out; omega); clear hc B3 B6 hb; have hc := fun (o : Obj) (i : Nat) => blk_cell (blk_alloc C3.out o) i; have hf := fun (o : Obj) (i : Nat) => blk_frozen (blk_alloc C3.out o) i; have hc7 := fun (o : Obj) (i : Nat) => blk_cell (blk_alloc C7.out o) i)
  | (go_at_call 60; (with_reducible refine (refLost_calls _).mono ?_); rintro e w3 ⟨rfl, hb⟩; have HB3 := Aside0.mk (below_step (below_alloc HB2.out _) hb); have D6 := Aside0.mk (blk_below (blk_alloc C6.out (.cells (cellA (slidC r k f3)) 30)) hb); clear hb)
  | ((with_reducible refine gate_store (t := 33) (p := 6) (v := .tmp 47) rfl ?_); refine wpRowSt rfl 33 (.tmp 6) (.tmp 47) rfl (w.heap.size + 1) (nodeA lostN none 0) rfl rfl 33 _ D6.out (by kernel_rfl) rfl rfl ?_))
 refine bodyPost_ret (results_cell_row rfl _ _ (w.heap.size + 1) 33 (nodeA lostN none 0) (0, 0) _ rfl (setRow_heap _ _ _ _ _ _ D6.out) Tryz.underlying33 rfl (by kernel_rfl)) rfl ?_
 exact ⟨none, 0, rfl, kidsF_nil _ _ _ _, rowBelow HB3.out (by omega) _⟩
theorem slide_calls (r k : Int) (d : Nat) : ∀ (n : Nd) (A : Option Addr) (c : Nat) (w : World) (hd : szN n < d) (hK : KidsC w A c n.f5) (hS : allS leafB n = true),
  Calls Tryz.prog 34 #[nodeV n A c, .int .i64 r, .int .i64 k] w (NodeOut (slideS r k n) w) := by
 induction d with
 | zero => intro n A c w hd; omega
 | succ d ih =>
 intro n A c w hd hK hS
 by_cases h2 : n.f0 = 2
 ·have hl0 := leaf_nil (allS_kid hS).1 (Or.inl h2)
  have hx := wayS_eq (slid1 r k) (slid2 r k) n
  rw [if_pos h2, hl0] at hx
  unfold slideS
  rw [hx]
  clear hx
  obtain ⟨f0, f1, f2, f3, f4, l⟩ := n
  simp only at h2 hl0
  subst h2
  subst hl0
  cases hq : cellB (slidC r k f2) with
  | true =>
   rw [show slid1 r k f2 = some (slidC r k f2) from by unfold slid1; rw [if_pos hq]]
   exact slide_cell_some r k f1 f2 f3 f4 A c w hq
  | false =>
   rw [show slid1 r k f2 = none from by unfold slid1; rw [if_neg (by simp [hq])]]
   exact slide_cell_none r k f1 f2 f3 f4 A c w hq
 by_cases h3 : n.f0 = 3
 ·have hl0 := leaf_nil (allS_kid hS).1 (Or.inr h3)
  have hx := wayS_eq (slid1 r k) (slid2 r k) n
  rw [if_neg h2, if_pos h3, hl0] at hx
  unfold slideS
  rw [hx]
  clear hx
  obtain ⟨f0, f1, f2, f3, f4, l⟩ := n
  simp only at h3 hl0
  subst h3
  subst hl0
  cases hq : cellB (slidC r k f2) with
  | true =>
   cases hp : cellB (slidC r k f3) with
   | true =>
    rw [show slid2 r k f2 f3 = some (slidC r k f2, slidC r k f3) from by unfold slid2; rw [if_pos ⟨hq, hp⟩]]
    exact slide_range_some r k f1 f2 f3 f4 A c w hq hp
   | false =>
    rw [show slid2 r k f2 f3 = none from by unfold slid2; rw [if_neg (by simp [hp])]]
    exact slide_range_none1 r k f1 f2 f3 f4 A c w hq hp
  | false =>
   rw [show slid2 r k f2 f3 = none from by unfold slid2; rw [if_neg (by simp [hq])]]
   exact slide_range_none2 r k f1 f2 f3 f4 A c w hq
 ·have hne : w.heap.size + 1 ≠ w.heap.size := by omega
  obtain ⟨hlc, hC⟩ := hK
  have hmax := hC.2.1
  have HC := Aside0.mk hC
  have HI := Aside0.mk ih
  have HD := Aside0.mk hd
  have HS := Aside0.mk (allS_kid hS)
  clear hC ih hd hS
  have hfew : n.f5.length ≤ 4096 := by have := HS.out.1; simp only [leafB, Bool.and_eq_true, decide_eq_true_eq] at this; exact this.1
  have hx := wayS_eq (slid1 r k) (slid2 r k) n
  rw [if_neg h2, if_neg h3] at hx
  have HX := Aside0.mk (show slideS r k n = withK n (n.f5.map (slideS r k)) from hx)
  clear hx
  generalize slideS r k n = x at HX ⊢
  have hb2 : (n.f0 == 2) = false := by simp [h2]
  have hb3 : (n.f0 == 3) = false := by simp [h3]
  go_enter Tryz.func34, Tryz.ntmps34
  go_wp2_with (first
   | (go_at_call 59; (with_reducible refine (slid_calls n.f2 r k _).mono ?_); rintro e w1 ⟨rfl, hb⟩; have HB1 := Aside0.mk (below_step (bel2 w _ _) hb); have B3 := Aside0.mk (blk_below (blk_alloc (newBlk w (.cells (nodeA n A c) 33)) (.cells (nodeA zeroN none 0) 33)) hb); have B6 := Aside0.mk (blk_below (newBlk2 w (.cells (nodeA n A c) 33) (.cells (nodeA zeroN none 0) 33)) hb); have hc := fun (o : Obj) (i : Nat) => blk_cell (blk_alloc B3.out o) i; clear hb)
   | (go_at_call 59; (with_reducible refine (slid_calls n.f3 r k _).mono ?_); rintro e w2 ⟨rfl, hb⟩; have HB2 := Aside0.mk (below_step (below_alloc HB1.out _) hb); have C3 := Aside0.mk (blk_below (blk_alloc B3.out (.cells (cellA (slidC r k n.f2)) 30)) hb); have C6 := Aside0.mk (blk_below (blk_alloc B6.out (.cells (cellA (slidC r k n.f2)) 30)) hb); have C7 := Aside0.mk (blk_below (newBlk w1 (.cells (cellA (slidC r k n.f2)) 30)) hb); have hn7 : w1.heap.size ≠ w.heap.size := (by have := blk_lt B3.out; omega); clear hc B3 B6 hb; have hc := fun (o : Obj) (i : Nat) => blk_cell (blk_alloc C3.out o) i; have hf := fun (o : Obj) (i : Nat) => blk_frozen (blk_alloc C3.out o) i; have hc7 := fun (o : Obj) (i : Nat) => blk_cell (blk_alloc C7.out o) i))
  go_loopw [11, 12] (fun v i wr => ∃ (q : Nat), q ≤ n.f5.length ∧ i = .int .i64 q ∧ Aside0 (Kd.N k33 33 wr w.heap.size (fun z => w.heap.size + 2 ≤ z) v ((n.f5.take q).map (slideS r k))) ∧ Aside0 (w.heap.size + 2 ≤ wr.heap.size) ∧ Aside0 (Below w.heap.size w wr) ∧ Aside0 (wr.heap[w.heap.size]? = some (.cells (nodeA n A c) 33 (0, 0))) ∧ Aside0 (wr.heap[w.heap.size + 1]? = some (.cells (nodeA zeroN none 0) 33 (0, 0)))) (fun _ i _ => n.f5.length - (intOf i).toNat)
  case atStart => exact ⟨0, by omega, rfl, ⟨Kd.N_nil _ _ _ _ _⟩, ⟨by have := blk_lt C6.out; simp; omega⟩, ⟨below_alloc HB2.out _⟩, ⟨blk_alloc C3.out _⟩, ⟨blk_alloc C6.out _⟩⟩
  case round =>
   clear HB1 HB2 C3 C6 C7 hc hf hc7
   obtain ⟨q, hk, rfl, HN, HZ, HB, HBk, HO⟩ := hrel
   have hc15 : wr.cell? ⟨w.heap.size, 15, none⟩ = some (.slice A n.f5.length c) := (blk_cell HBk.out 15).trans rfl
   by_cases hkl : q < n.f5.length
   ·obtain ⟨ad, A', c', e, hK', g0, g1, g2, g3, g4, g5, g6, g7, g8, g9, g10, g11, g12, g13, g14, g15⟩ := at_kid (Kd.C_below HC.out HB.out) q hkl
    subst e
    have HK' := Aside0.mk hK'
    clear hK'
    have HM := Aside0.mk (List.getElem_mem hkl)
    have HT := Aside0.mk (show (n.f5.take (q + 1)).map (slideS r k) = (n.f5.take q).map (slideS r k) ++ [slideS r k n.f5[q]] by rw [List.take_succ_eq_append_getElem hkl, List.map_append]; rfl)
    have HCk := Aside0.mk (HI.out n.f5[q] A' c' wr (by have := kid_lt HM.out; have := HD.out; omega) HK'.out (HS.out.2 _ HM.out))
    go_wp2_with (first
     | (go_at_call 34; (with_reducible refine HCk.out.mono ?_); rintro e w3 ⟨A2, c2, rfl, hF, hb⟩; have HB3 := Aside0.mk hb; have HF := Aside0.mk hF; clear hb hF)
     | (at_builtin; refine Kd.N_append k33 (w0 := w) w.heap.size rfl (.tmp 60) (.tmp 69) 31 33 (.agg #[(.int .i64 0), (.int .i64 0), (.int .i64 0), (.string ⟨#[]⟩), (.bool false), (.int .i64 0), (.int .i64 0), (.int .i64 0), (.bool false), (.bool false), (.int .i64 0), (.int .i64 0), (.bool false), (.bool false), (.string ⟨#[]⟩), (.slice none 0 0)]) 144 rfl Tryz.underlying31 info33 rfl (by decide) (by omega) _ ((n.f5.take q).map (slideS r k)) (slideS r k n.f5[q]) (nodeA (slideS r k n.f5[q]) A2 c2).toList (fun z => w.heap.size + 2 ≤ z) (fun z => wr.heap.size ≤ z) rfl rfl (kid_FK _ HF.out) ?aK ?aF (Kd.N_below HN.out HB3.out) (below_step HB.out HB3.out) ?aS ?aL ?_; (case aK => exact fun z hz => ⟨Nat.le_trans HZ.out hz, fun he => by have := Kd.N_lt HN.out _ he.symm; omega⟩); (case aF => exact fun z hz => by have := HZ.out; have := HB3.out.size; omega); (case aS => exact (below_size (below_step HB.out HB3.out))); (case aL => rw [List.length_map, List.length_take]; omega); intro v1 w4 ho hb2 hg hat; have HN2 := Aside0.mk ho; have HB2 := Aside0.mk hb2; have HG2 := Aside0.mk hg; clear ho hb2 hg hat))
    have h2' := blk_grown (blk_below HO.out HB3.out) HG2.out (fun he => by have := HN.out.1 _ he.symm; omega)
    refine ⟨⟨q + 1, by omega, by go_num, ⟨by rw [HT.out]; exact HN2.out⟩, ⟨by have := blk_lt h2'; omega⟩, HB2, ⟨blk_grown (blk_below HBk.out HB3.out) HG2.out (fun he => by have := HN.out.1 _ he.symm; omega)⟩, ⟨h2'⟩⟩, ?_⟩
    simp [intOf]; omega
   ·have HN' := Aside0.mk HN.out
    rw [List.take_of_length_le (by omega)] at HN'
    obtain ⟨A2, c2, rfl⟩ := Kd.N_slice HN'.out
    have HKc := Aside0.mk fun (W : World) => (by have := kids_calls n A c (n.f5.map (slideS r k)) A2 c2 W; rw [List.length_map] at this; exact this : Calls Tryz.prog 61 #[nodeV n A c, .slice A2 n.f5.length c2] W fun e w' => e = .returned (nodeV (withK n (n.f5.map (slideS r k))) A2 c2) ∧ Below W.heap.size W w')
    clear HN HC HI HS
    have hcl := fun i => blk_cell HBk.out i
    go_wp2_with (first
     | (go_at_call 61; (with_reducible refine (HKc.out _).mono ?_); rintro e w3 ⟨rfl, hb⟩; have HB3 := Aside0.mk hb; have D6 := Aside0.mk (blk_below HO.out hb); clear hb)
     | ((with_reducible refine gate_store (t := 33) (p := 6) (v := .tmp 73) rfl ?_); refine wpRowSt rfl 33 (.tmp 6) (.tmp 73) rfl (w.heap.size + 1) (nodeA (withK n (n.f5.map (slideS r k))) A2 c2) rfl rfl 33 _ D6.out (by kernel_rfl) rfl rfl ?_))
    refine bodyPost_ret (results_cell_row rfl _ _ (w.heap.size + 1) 33 (nodeA (withK n (n.f5.map (slideS r k))) A2 c2) (0, 0) _ rfl (setRow_heap _ _ _ _ _ _ D6.out) Tryz.underlying33 rfl (by kernel_rfl)) rfl ?_
    rw [HX.out]
    exact ⟨A2, c2, rfl, ⟨(Kd.N_reads' HN'.out).2.1, Kd.F_mono (Kd.F_step (Kd.N_F (Kd.N_below HN'.out HB3.out)) (fun z hz _ => setRow_other _ _ z _ (by omega))) (fun z hz => by omega)⟩, rowBelow (below_step HB.out HB3.out) (by omega) _⟩
theorem newBlk3a (w : World) (o p q : Obj) : (((w.alloc o).alloc p).alloc q).heap[w.heap.size]? = some o := blk_alloc (blk_alloc (newBlk w o) p) q
theorem newBlk3b (w : World) (o p q : Obj) : (((w.alloc o).alloc p).alloc q).heap[w.heap.size + 1]? = some p := blk_alloc (newBlk2 w o p) q
theorem newBlk3c (w : World) (o p q : Obj) : (((w.alloc o).alloc p).alloc q).heap[w.heap.size + 2]? = some q := by
 have h := newBlk2 (w.alloc o) p q
 have e : (w.alloc o).heap.size = w.heap.size + 1 := by simp
 rwa [e] at h
theorem bel3 (w : World) (o p q : Obj) : Below w.heap.size w (((w.alloc o).alloc p).alloc q) := below_alloc (bel2 w o p) q
theorem nodeV_withK (n : Nd) (l : List Nd) (A : Option Addr) (c : Nat) (h : l.length = n.f5.length) : nodeV (withK n l) A c = nodeV n A c := by
 unfold nodeV nodeA withK
 simp only [h]
def way1 (X : Ce → Ce) (b : Ce → Bool) (c : Ce) : Option Ce := if b c = true then some (X c) else none
def way2 (Y Z : Ce → Ce → Ce) (b : Ce → Ce → Bool) (a c : Ce) : Option (Ce × Ce) := if b a c = true then some (Y a c, Z a c) else none
abbrev wayV1 (P Q F : Value) : Value := .agg #[.func (.func 55) #[] #[P, Q], .func (.func 57) #[] #[F]]
def CellLaw1 (P Q : Value) (X : Ce → Ce) (b : Ce → Bool) (w : World) : Prop := ∀ (c : Ce) (W : World), Below w.heap.size w W → Calls Tryz.prog 55 #[.agg (cellA c), P, Q] W fun e w' => e = .returned (.tuple #[.agg (cellA (X c)), .bool (b c)]) ∧ Below W.heap.size W w'
def SpanLaw1 (F : Value) (X Y : Ce → Ce → Ce) (b : Ce → Ce → Bool) (w : World) : Prop := ∀ (a c : Ce) (W : World), Below w.heap.size w W → Calls Tryz.prog 57 #[.agg (cellA a), .agg (cellA c), F] W fun e w' => e = .returned (.tuple #[.agg (cellA (X a c)), .agg (cellA (Y a c)), .bool (b a c)]) ∧ Below W.heap.size W w'
theorem CellLaw1.below {P Q : Value} {X : Ce → Ce} {b : Ce → Bool} {w w1 : World} (h : CellLaw1 P Q X b w) (hb : Below w.heap.size w w1) : CellLaw1 P Q X b w1 := fun c W hW => h c W (below_step hb hW)
theorem SpanLaw1.below {F : Value} {X Y : Ce → Ce → Ce} {b : Ce → Ce → Bool} {w w1 : World} (h : SpanLaw1 F X Y b w) (hb : Below w.heap.size w w1) : SpanLaw1 F X Y b w1 := fun a c W hW => h a c W (below_step hb hW)
theorem node1_cell_some (P Q F : Value) (f1 : S26) (f2 f3 x : Ce) (f4 : ByteArray) (A : Option Addr) (c : Nat) (w : World)
  (hC : ∀ (W : World), Below w.heap.size w W → Calls Tryz.prog 55 #[.agg (cellA f2), P, Q] W fun e w' => e = .returned (.tuple #[.agg (cellA x), .bool true]) ∧ Below W.heap.size W w') :
  Calls Tryz.prog 33 #[wayV1 P Q F, nodeV ⟨2, f1, f2, f3, f4, []⟩ A c] w (NodeOut ⟨2, f1, x, f3, f4, []⟩ w) := by
 have HC := Aside0.mk hC
 clear hC
 have hne : w.heap.size + 2 ≠ w.heap.size + 1 := by omega
 go_enter Tryz.func33, Tryz.ntmps33
 go_wp2_with (first
  | (go_at_call 55; (with_reducible refine (HC.out _ (bel3 w _ _ _)).mono ?_); rintro e w1 ⟨rfl, hb⟩; have HB1 := Aside0.mk (below_step (bel3 w _ _ _) hb); have B3 := Aside0.mk (blk_below (newBlk3b w (.cells #[.func (.func 55) #[] #[P, Q], .func (.func 57) #[] #[F]] 76) (.cells (nodeA ⟨2, f1, f2, f3, f4, []⟩ A c) 33) (.cells (nodeA zeroN none 0) 33)) hb); have B4 := Aside0.mk (blk_below (newBlk3c w (.cells #[.func (.func 55) #[] #[P, Q], .func (.func 57) #[] #[F]] 76) (.cells (nodeA ⟨2, f1, f2, f3, f4, []⟩ A c) 33) (.cells (nodeA zeroN none 0) 33)) hb); have hc := fun i => blk_cell B3.out i; have hf := fun i => blk_frozen B3.out i; clear hb))
 refine wp_loop_rounds 1 ?_
 rw [rounds_succ]
 go_wp2_with ((with_reducible refine gate_store (t := 33) (p := 4) (v := .tmp 56) rfl ?_); refine wpRowSt rfl 33 (.tmp 4) (.tmp 56) rfl (w.heap.size + 2) (nodeA ⟨2, f1, x, f3, f4, []⟩ none 0) rfl rfl 33 _ (blk_far (p := ⟨w.heap.size + 1, 15, none⟩) (blk_far (p := ⟨w.heap.size + 1, 9, none⟩) (blk_far (p := ⟨w.heap.size + 1, 8, none⟩) (blk_far (p := ⟨w.heap.size + 1, 7, none⟩) (blk_far (p := ⟨w.heap.size + 1, 6, none⟩) B4.out hne _) hne _) hne _) hne _) hne _) (by kernel_rfl) rfl rfl ?_)
 refine bodyPost_ret (results_cell_row rfl _ _ (w.heap.size + 2) 33 (nodeA ⟨2, f1, x, f3, f4, []⟩ none 0) (0, 0) _ rfl (setRow_heap _ _ _ _ _ _ (blk_far (p := ⟨w.heap.size + 1, 15, none⟩) (blk_far (p := ⟨w.heap.size + 1, 9, none⟩) (blk_far (p := ⟨w.heap.size + 1, 8, none⟩) (blk_far (p := ⟨w.heap.size + 1, 7, none⟩) (blk_far (p := ⟨w.heap.size + 1, 6, none⟩) B4.out hne _) hne _) hne _) hne _) hne _)) Tryz.underlying33 rfl (by kernel_rfl)) rfl ?_
 exact ⟨none, 0, rfl, kidsF_nil _ _ _ _, rowBelow (below_set (below_set (below_set (below_set (below_set HB1.out (Nat.le_succ _)) (Nat.le_succ _)) (Nat.le_succ _)) (Nat.le_succ _)) (Nat.le_succ _)) (by omega) _⟩
theorem node1_cell_none (P Q F : Value) (f1 : S26) (f2 f3 x : Ce) (f4 : ByteArray) (A : Option Addr) (c : Nat) (w : World)
  (hC : ∀ (W : World), Below w.heap.size w W → Calls Tryz.prog 55 #[.agg (cellA f2), P, Q] W fun e w' => e = .returned (.tuple #[.agg (cellA x), .bool false]) ∧ Below W.heap.size W w') :
  Calls Tryz.prog 33 #[wayV1 P Q F, nodeV ⟨2, f1, f2, f3, f4, []⟩ A c] w (NodeOut lostN w) := by
 have HC := Aside0.mk hC
 clear hC
 have hne : w.heap.size + 2 ≠ w.heap.size + 1 := by omega
 go_enter Tryz.func33, Tryz.ntmps33
 go_wp2_with (first
  | (go_at_call 55; (with_reducible refine (HC.out _ (bel3 w _ _ _)).mono ?_); rintro e w1 ⟨rfl, hb⟩; have HB1 := Aside0.mk (below_step (bel3 w _ _ _) hb); have B3 := Aside0.mk (blk_below (newBlk3b w (.cells #[.func (.func 55) #[] #[P, Q], .func (.func 57) #[] #[F]] 76) (.cells (nodeA ⟨2, f1, f2, f3, f4, []⟩ A c) 33) (.cells (nodeA zeroN none 0) 33)) hb); have B4 := Aside0.mk (blk_below (newBlk3c w (.cells #[.func (.func 55) #[] #[P, Q], .func (.func 57) #[] #[F]] 76) (.cells (nodeA ⟨2, f1, f2, f3, f4, []⟩ A c) 33) (.cells (nodeA zeroN none 0) 33)) hb); have hc := fun i => blk_cell B3.out i; have hf := fun i => blk_frozen B3.out i; clear hb)
  | (go_at_call 58; (with_reducible refine (lost_calls _).mono ?_); rintro e w3 ⟨rfl, hb⟩; have HB3 := Aside0.mk (below_step (below_set (below_set (below_set (below_set HB1.out (Nat.le_succ _)) (Nat.le_succ _)) (Nat.le_succ _)) (Nat.le_succ _)) hb); have D4 := Aside0.mk (blk_below (blk_far (p := ⟨w.heap.size + 1, 9, none⟩) (blk_far (p := ⟨w.heap.size + 1, 8, none⟩) (blk_far (p := ⟨w.heap.size + 1, 7, none⟩) (blk_far (p := ⟨w.heap.size + 1, 6, none⟩) B4.out hne _) hne _) hne _) hne _) hb); clear hb)
  | ((with_reducible refine gate_store (t := 33) (p := 4) (v := .tmp 39) rfl ?_); refine wpRowSt rfl 33 (.tmp 4) (.tmp 39) rfl (w.heap.size + 2) (nodeA lostN none 0) rfl rfl 33 _ D4.out (by kernel_rfl) rfl rfl ?_))
 refine bodyPost_ret (results_cell_row rfl _ _ (w.heap.size + 2) 33 (nodeA lostN none 0) (0, 0) _ rfl (setRow_heap _ _ _ _ _ _ D4.out) Tryz.underlying33 rfl (by kernel_rfl)) rfl ?_
 exact ⟨none, 0, rfl, kidsF_nil _ _ _ _, rowBelow HB3.out (by omega) _⟩
theorem node1_span_some (P Q F : Value) (f1 : S26) (f2 f3 x y : Ce) (f4 : ByteArray) (A : Option Addr) (c : Nat) (w : World)
  (hC : ∀ (W : World), Below w.heap.size w W → Calls Tryz.prog 57 #[.agg (cellA f2), .agg (cellA f3), F] W fun e w' => e = .returned (.tuple #[.agg (cellA x), .agg (cellA y), .bool true]) ∧ Below W.heap.size W w') :
  Calls Tryz.prog 33 #[wayV1 P Q F, nodeV ⟨3, f1, f2, f3, f4, []⟩ A c] w (NodeOut ⟨3, f1, x, y, f4, []⟩ w) := by
 have HC := Aside0.mk hC
 clear hC
 have hne : w.heap.size + 2 ≠ w.heap.size + 1 := by omega
 go_enter Tryz.func33, Tryz.ntmps33
 go_wp2_with (first
  | (go_at_call 57; (with_reducible refine (HC.out _ (bel3 w _ _ _)).mono ?_); rintro e w1 ⟨rfl, hb⟩; have HB1 := Aside0.mk (below_step (bel3 w _ _ _) hb); have B3 := Aside0.mk (blk_below (newBlk3b w (.cells #[.func (.func 55) #[] #[P, Q], .func (.func 57) #[] #[F]] 76) (.cells (nodeA ⟨3, f1, f2, f3, f4, []⟩ A c) 33) (.cells (nodeA zeroN none 0) 33)) hb); have B4 := Aside0.mk (blk_below (newBlk3c w (.cells #[.func (.func 55) #[] #[P, Q], .func (.func 57) #[] #[F]] 76) (.cells (nodeA ⟨3, f1, f2, f3, f4, []⟩ A c) 33) (.cells (nodeA zeroN none 0) 33)) hb); have hc := fun i => blk_cell B3.out i; have hf := fun i => blk_frozen B3.out i; clear hb))
 refine wp_loop_rounds 1 ?_
 rw [rounds_succ]
 go_wp2_with ((with_reducible refine gate_store (t := 33) (p := 4) (v := .tmp 56) rfl ?_); refine wpRowSt rfl 33 (.tmp 4) (.tmp 56) rfl (w.heap.size + 2) (nodeA ⟨3, f1, x, y, f4, []⟩ none 0) rfl rfl 33 _ (blk_far (p := ⟨w.heap.size + 1, 15, none⟩) (blk_far (p := ⟨w.heap.size + 1, 13, none⟩) (blk_far (p := ⟨w.heap.size + 1, 12, none⟩) (blk_far (p := ⟨w.heap.size + 1, 11, none⟩) (blk_far (p := ⟨w.heap.size + 1, 10, none⟩) (blk_far (p := ⟨w.heap.size + 1, 9, none⟩) (blk_far (p := ⟨w.heap.size + 1, 8, none⟩) (blk_far (p := ⟨w.heap.size + 1, 7, none⟩) (blk_far (p := ⟨w.heap.size + 1, 6, none⟩) B4.out hne _) hne _) hne _) hne _) hne _) hne _) hne _) hne _) hne _) (by kernel_rfl) rfl rfl ?_)
 refine bodyPost_ret (results_cell_row rfl _ _ (w.heap.size + 2) 33 (nodeA ⟨3, f1, x, y, f4, []⟩ none 0) (0, 0) _ rfl (setRow_heap _ _ _ _ _ _ (blk_far (p := ⟨w.heap.size + 1, 15, none⟩) (blk_far (p := ⟨w.heap.size + 1, 13, none⟩) (blk_far (p := ⟨w.heap.size + 1, 12, none⟩) (blk_far (p := ⟨w.heap.size + 1, 11, none⟩) (blk_far (p := ⟨w.heap.size + 1, 10, none⟩) (blk_far (p := ⟨w.heap.size + 1, 9, none⟩) (blk_far (p := ⟨w.heap.size + 1, 8, none⟩) (blk_far (p := ⟨w.heap.size + 1, 7, none⟩) (blk_far (p := ⟨w.heap.size + 1, 6, none⟩) B4.out hne _) hne _) hne _) hne _) hne _) hne _) hne _) hne _) hne _)) Tryz.underlying33 rfl (by kernel_rfl)) rfl ?_
 exact ⟨none, 0, rfl, kidsF_nil _ _ _ _, rowBelow (below_set (below_set (below_set (below_set (below_set (below_set (below_set (below_set (below_set HB1.out (Nat.le_succ _)) (Nat.le_succ _)) (Nat.le_succ _)) (Nat.le_succ _)) (Nat.le_succ _)) (Nat.le_succ _)) (Nat.le_succ _)) (Nat.le_succ _)) (Nat.le_succ _)) (by omega) _⟩
theorem node1_span_none (P Q F : Value) (f1 : S26) (f2 f3 x y : Ce) (f4 : ByteArray) (A : Option Addr) (c : Nat) (w : World)
  (hC : ∀ (W : World), Below w.heap.size w W → Calls Tryz.prog 57 #[.agg (cellA f2), .agg (cellA f3), F] W fun e w' => e = .returned (.tuple #[.agg (cellA x), .agg (cellA y), .bool false]) ∧ Below W.heap.size W w') :
  Calls Tryz.prog 33 #[wayV1 P Q F, nodeV ⟨3, f1, f2, f3, f4, []⟩ A c] w (NodeOut lostN w) := by
 have HC := Aside0.mk hC
 clear hC
 have hne : w.heap.size + 2 ≠ w.heap.size + 1 := by omega
 go_enter Tryz.func33, Tryz.ntmps33
 go_wp2_with (first
  | (go_at_call 57; (with_reducible refine (HC.out _ (bel3 w _ _ _)).mono ?_); rintro e w1 ⟨rfl, hb⟩; have HB1 := Aside0.mk (below_step (bel3 w _ _ _) hb); have B3 := Aside0.mk (blk_below (newBlk3b w (.cells #[.func (.func 55) #[] #[P, Q], .func (.func 57) #[] #[F]] 76) (.cells (nodeA ⟨3, f1, f2, f3, f4, []⟩ A c) 33) (.cells (nodeA zeroN none 0) 33)) hb); have B4 := Aside0.mk (blk_below (newBlk3c w (.cells #[.func (.func 55) #[] #[P, Q], .func (.func 57) #[] #[F]] 76) (.cells (nodeA ⟨3, f1, f2, f3, f4, []⟩ A c) 33) (.cells (nodeA zeroN none 0) 33)) hb); have hc := fun i => blk_cell B3.out i; have hf := fun i => blk_frozen B3.out i; clear hb)
  | (go_at_call 58; (with_reducible refine (lost_calls _).mono ?_); rintro e w3 ⟨rfl, hb⟩; have HB3 := Aside0.mk (below_step (below_set (below_set (below_set (below_set (below_set (below_set (below_set (below_set HB1.out (Nat.le_succ _)) (Nat.le_succ _)) (Nat.le_succ _)) (Nat.le_succ _)) (Nat.le_succ _)) (Nat.le_succ _)) (Nat.le_succ _)) (Nat.le_succ _)) hb); have D4 := Aside0.mk (blk_below (blk_far (p := ⟨w.heap.size + 1, 13, none⟩) (blk_far (p := ⟨w.heap.size + 1, 12, none⟩) (blk_far (p := ⟨w.heap.size + 1, 11, none⟩) (blk_far (p := ⟨w.heap.size + 1, 10, none⟩) (blk_far (p := ⟨w.heap.size + 1, 9, none⟩) (blk_far (p := ⟨w.heap.size + 1, 8, none⟩) (blk_far (p := ⟨w.heap.size + 1, 7, none⟩) (blk_far (p := ⟨w.heap.size + 1, 6, none⟩) B4.out hne _) hne _) hne _) hne _) hne _) hne _) hne _) hne _) hb); clear hb)
  | ((with_reducible refine gate_store (t := 33) (p := 4) (v := .tmp 39) rfl ?_); refine wpRowSt rfl 33 (.tmp 4) (.tmp 39) rfl (w.heap.size + 2) (nodeA lostN none 0) rfl rfl 33 _ D4.out (by kernel_rfl) rfl rfl ?_))
 refine bodyPost_ret (results_cell_row rfl _ _ (w.heap.size + 2) 33 (nodeA lostN none 0) (0, 0) _ rfl (setRow_heap _ _ _ _ _ _ D4.out) Tryz.underlying33 rfl (by kernel_rfl)) rfl ?_
 exact ⟨none, 0, rfl, kidsF_nil _ _ _ _, rowBelow HB3.out (by omega) _⟩
theorem node1_calls (P Q F : Value) (X : Ce → Ce) (b : Ce → Bool) (Y Z : Ce → Ce → Ce) (b2 : Ce → Ce → Bool) (d : Nat) : ∀ (n : Nd) (A : Option Addr) (c : Nat) (w : World) (hd : szN n < d) (hK : KidsC w A c n.f5) (hS : allS leafB n = true)
  (hC : CellLaw1 P Q X b w) (hD : SpanLaw1 F Y Z b2 w),
  Calls Tryz.prog 33 #[wayV1 P Q F, nodeV n A c] w (NodeOut (wayS (way1 X b) (way2 Y Z b2) n) w) := by
 induction d with
 | zero => intro n A c w hd; omega
 | succ d ih =>
 intro n A c w hd hK hS hC hD
 by_cases h2 : n.f0 = 2
 ·have hl0 := leaf_nil (allS_kid hS).1 (Or.inl h2)
  rw [wayS_eq, if_pos h2, hl0]
  obtain ⟨f0, f1, f2, f3, f4, l⟩ := n
  simp only at h2 hl0
  subst h2
  subst hl0
  cases hq : b f2 with
  | true =>
   rw [show way1 X b f2 = some (X f2) from by unfold way1; rw [if_pos hq]]
   exact node1_cell_some P Q F f1 f2 f3 (X f2) f4 A c w (fun W hW => by have := hC f2 W hW; rwa [hq] at this)
  | false =>
   rw [show way1 X b f2 = none from by unfold way1; rw [if_neg (by simp [hq])]]
   exact node1_cell_none P Q F f1 f2 f3 (X f2) f4 A c w (fun W hW => by have := hC f2 W hW; rwa [hq] at this)
 by_cases h3 : n.f0 = 3
 ·have hl0 := leaf_nil (allS_kid hS).1 (Or.inr h3)
  rw [wayS_eq, if_neg h2, if_pos h3, hl0]
  obtain ⟨f0, f1, f2, f3, f4, l⟩ := n
  simp only at h3 hl0
  subst h3
  subst hl0
  cases hq : b2 f2 f3 with
  | true =>
   rw [show way2 Y Z b2 f2 f3 = some (Y f2 f3, Z f2 f3) from by unfold way2; rw [if_pos hq]]
   exact node1_span_some P Q F f1 f2 f3 (Y f2 f3) (Z f2 f3) f4 A c w (fun W hW => by have := hD f2 f3 W hW; rwa [hq] at this)
  | false =>
   rw [show way2 Y Z b2 f2 f3 = none from by unfold way2; rw [if_neg (by simp [hq])]]
   exact node1_span_none P Q F f1 f2 f3 (Y f2 f3) (Z f2 f3) f4 A c w (fun W hW => by have := hD f2 f3 W hW; rwa [hq] at this)
 ·obtain ⟨hlc, hCC⟩ := hK
  have hmax := hCC.2.1
  have HC := Aside0.mk hCC
  have HD := Aside0.mk hd
  have HS := Aside0.mk (allS_kid hS)
  have hfew : n.f5.length ≤ 4096 := by have := HS.out.1; simp only [leafB, Bool.and_eq_true, decide_eq_true_eq] at this; exact this.1
  have HI := Aside0.mk fun (x : Nd) (A : Option Addr) (c : Nat) (W : World) (hm : x ∈ n.f5) (hW : Below w.heap.size w W) (hx : KidsC W A c x.f5) => ih x A c W (by have := kid_lt hm; have := HD.out; omega) hx (HS.out.2 _ hm) (hC.below hW) (hD.below hW)
  clear hCC ih hd hS HS HD hC hD
  have HX := Aside0.mk (show wayS (way1 X b) (way2 Y Z b2) n = withK n (n.f5.map (wayS (way1 X b) (way2 Y Z b2))) by rw [wayS_eq, if_neg h2, if_neg h3])
  generalize hG : wayS (way1 X b) (way2 Y Z b2) = g at HX HI ⊢
  generalize g n = x at HX ⊢
  clear hG
  have hb2 : (n.f0 == 2) = false := by simp [h2]
  have hb3 : (n.f0 == 3) = false := by simp [h3]
  go_enter Tryz.func33, Tryz.ntmps33
  go_wp2
  go_loopw [6, 43] (fun v i wr => ∃ (q : Nat), q ≤ n.f5.length ∧ i = .int .i64 q ∧ Aside0 (Kd.N k33 33 wr w.heap.size (fun z => w.heap.size + 3 ≤ z) v ((n.f5.take q).map g)) ∧ Aside0 (w.heap.size + 3 ≤ wr.heap.size) ∧ Aside0 (Below w.heap.size w wr) ∧ Aside0 (wr.heap[w.heap.size]? = some (.cells #[.func (.func 55) #[] #[P, Q], .func (.func 57) #[] #[F]] 76 (0, 0))) ∧ Aside0 (wr.heap[w.heap.size + 1]? = some (.cells (nodeA n A c) 33 (0, 0))) ∧ Aside0 (wr.heap[w.heap.size + 2]? = some (.cells (nodeA zeroN none 0) 33 (0, 0)))) (fun _ i _ => n.f5.length - (intOf i).toNat)
  case atStart => exact ⟨0, by omega, rfl, ⟨Kd.N_nil _ _ _ _ _⟩, ⟨by simp⟩, ⟨bel3 w _ _ _⟩, ⟨newBlk3a w _ _ _⟩, ⟨newBlk3b w _ _ _⟩, ⟨newBlk3c w _ _ _⟩⟩
  case round =>
   obtain ⟨q, hk, rfl, HN, HZ, HB, HW, HBk, HO⟩ := hrel
   by_cases hkl : q < n.f5.length
   ·obtain ⟨ad, A', c', e, hK', g0, g1, g2, g3, g4, g5, g6, g7, g8, g9, g10, g11, g12, g13, g14, g15⟩ := at_kid (Kd.C_below HC.out HB.out) q hkl
    subst e
    have HK' := Aside0.mk hK'
    clear hK'
    have HM := Aside0.mk (List.getElem_mem hkl)
    have HT := Aside0.mk (show (n.f5.take (q + 1)).map g = (n.f5.take q).map g ++ [g n.f5[q]] by rw [List.take_succ_eq_append_getElem hkl, List.map_append]; rfl)
    have hw := fun (o : Obj) (i : Nat) => blk_cell (blk_alloc HW.out o) i
    go_wp2_with (first
     | (go_at_call 33; (with_reducible refine (HI.out n.f5[q] A' c' _ HM.out (below_alloc HB.out _) (HK'.out.below (bel1 wr _))).mono ?_); rintro e w3 ⟨A2, c2, rfl, hF, hb⟩; have HB3 := Aside0.mk (below_step (bel1 wr _) hb); have HF := Aside0.mk (hF.lower (b' := wr.heap.size) (by simp)); clear hb hF)
     | (at_builtin; refine Kd.N_append k33 (w0 := w) w.heap.size rfl (.tmp 47) (.tmp 51) 31 33 (.agg #[(.int .i64 0), (.int .i64 0), (.int .i64 0), (.string ⟨#[]⟩), (.bool false), (.int .i64 0), (.int .i64 0), (.int .i64 0), (.bool false), (.bool false), (.int .i64 0), (.int .i64 0), (.bool false), (.bool false), (.string ⟨#[]⟩), (.slice none 0 0)]) 144 rfl Tryz.underlying31 info33 rfl (by decide) (by omega) _ ((n.f5.take q).map g) (g n.f5[q]) (nodeA (g n.f5[q]) A2 c2).toList (fun z => w.heap.size + 3 ≤ z) (fun z => wr.heap.size ≤ z) rfl rfl (kid_FK _ HF.out) ?aK ?aF (Kd.N_below HN.out HB3.out) (below_step HB.out HB3.out) ?aS ?aL ?_; (case aK => exact fun z hz => ⟨Nat.le_trans HZ.out hz, fun he => by have := Kd.N_lt HN.out _ he.symm; omega⟩); (case aF => exact fun z hz => by have := HZ.out; have := HB3.out.size; omega); (case aS => exact (below_size (below_step HB.out HB3.out))); (case aL => rw [List.length_map, List.length_take]; omega); intro v1 w4 ho hb2 hg hat; have HN2 := Aside0.mk ho; have HB2 := Aside0.mk hb2; have HG2 := Aside0.mk hg; clear ho hb2 hg hat))
    have h2' := blk_grown (blk_below HO.out HB3.out) HG2.out (fun he => by have := HN.out.1 _ he.symm; omega)
    refine ⟨⟨q + 1, by omega, by go_num, ⟨by rw [HT.out]; exact HN2.out⟩, ⟨by have := blk_lt h2'; omega⟩, HB2, ⟨blk_grown (blk_below HW.out HB3.out) HG2.out (fun he => by have := HN.out.1 _ he.symm; omega)⟩, ⟨blk_grown (blk_below HBk.out HB3.out) HG2.out (fun he => by have := HN.out.1 _ he.symm; omega)⟩, ⟨h2'⟩⟩, ?_⟩
    simp [intOf]; omega
   ·have HN' := Aside0.mk HN.out
    rw [List.take_of_length_le (by omega)] at HN'
    obtain ⟨A2, c2, rfl⟩ := Kd.N_slice HN'.out
    clear HN HC HI HW
    have hc := fun i => blk_cell HBk.out i
    have hf := fun i => blk_frozen HBk.out i
    have hne : w.heap.size + 2 ≠ w.heap.size + 1 := by omega
    go_wp2_with ((with_reducible refine gate_store (t := 33) (p := 4) (v := .tmp 56) rfl ?_); refine wpRowSt rfl 33 (.tmp 4) (.tmp 56) rfl (w.heap.size + 2) (nodeA n A2 c2) rfl rfl 33 _ (blk_far (p := ⟨w.heap.size + 1, 15, none⟩) HO.out hne _) (by kernel_rfl) rfl rfl ?_)
    refine bodyPost_ret (results_cell_row rfl _ _ (w.heap.size + 2) 33 (nodeA n A2 c2) (0, 0) _ rfl (setRow_heap _ _ _ _ _ _ (blk_far (p := ⟨w.heap.size + 1, 15, none⟩) HO.out hne _)) Tryz.underlying33 rfl (by kernel_rfl)) rfl ?_
    rw [HX.out]
    exact ⟨A2, c2, by rw [nodeV_withK n _ A2 c2 (List.length_map ..)], ⟨(Kd.N_reads' HN'.out).2.1, Kd.F_mono (Kd.F_step (Kd.N_F HN'.out) (fun z hz _ => (setRow_other _ _ z _ (by omega)).trans (Below.heap_setCell wr ⟨w.heap.size + 1, 15, none⟩ _ z (by show z ≠ w.heap.size + 1; omega)))) (fun z hz => by omega)⟩, rowBelow (below_set HB.out (Nat.le_succ _)) (by omega) _⟩
mutual
/-- how many lost references there are. -/
def lostS : Nd → Int
 | ⟨a, v, _, _, _, l⟩ => lostL l (if a = 1 ∧ v.f4 = 3 then 1 else 0)
def lostL : List Nd → Int → Int
 | [], s => s
 | x :: r, s => lostL r (wrap64 (s + lostS x))
end
theorem lostS_eq (n : Nd) : lostS n = lostL n.f5 (if n.f0 = 1 ∧ n.f1.f4 = 3 then 1 else 0) := by cases n; rw [lostS]
theorem lostcount_calls (d : Nat) : ∀ (n : Nd) (A : Option Addr) (c : Nat) (w : World) (hd : szN n < d) (hK : KidsC w A c n.f5),
  Calls Tryz.prog 16 #[nodeV n A c] w fun e w' => e = .returned (.int .i64 (lostS n)) ∧ Below w.heap.size w w' := by
 induction d with
 | zero => intro n A c w hd; omega
 | succ d ih =>
  intro n A c w hd hK
  obtain ⟨hlc, hC⟩ := hK
  have hmax := hC.2.1
  have HC := Aside0.mk hC
  have HI := Aside0.mk ih
  have HD := Aside0.mk hd
  clear hC ih hd
  have HR := Aside0.mk (lostS_eq n)
  generalize lostS n = r at HR ⊢
  have main : ∀ s : Int, Aside0 (r = lostL n.f5 s) → Aside0 (s = if n.f0 = 1 ∧ n.f1.f4 = 3 then 1 else 0) → Calls Tryz.prog 16 #[nodeV n A c] w fun e w' => e = .returned (.int .i64 r) ∧ Below w.heap.size w w' := by
   intro s HS HE
   go_enter Tryz.func16, Tryz.ntmps16
   by_cases h1 : n.f0 = 1
   ·by_cases h2 : n.f1.f4 = 3
    ·obtain rfl : s = 1 := by have := HE.out; rw [if_pos ⟨h1, h2⟩] at this; exact this
     go_wp2
     go_loopw [3, 4] (fun v i wr => ∃ (q : Nat) (s : Int), q ≤ n.f5.length ∧ i = .int .i64 q ∧ v = .int .i64 s ∧ Aside0 (r = lostL (n.f5.drop q) s) ∧ Aside0 (Below w.heap.size w wr) ∧ Aside0 (wr.heap[w.heap.size]? = some (.cells (nodeA n A c) 33 (0, 0)))) (fun _ i _ => n.f5.length - (intOf i).toNat)
     case atStart => exact ⟨0, _, by omega, rfl, rfl, HS, ⟨bel1 w _⟩, ⟨newBlk w _⟩⟩
     case round =>
      clear HS HE
      obtain ⟨q, s, hk, rfl, rfl, HX, HB, HBk⟩ := hrel
      have hc15 : wr.cell? ⟨w.heap.size, 15, none⟩ = some (.slice A n.f5.length c) := (blk_cell HBk.out 15).trans rfl
      by_cases hkl : q < n.f5.length
      ·obtain ⟨ad, A', c', e, hK', g0, g1, g2, g3, g4, g5, g6, g7, g8, g9, g10, g11, g12, g13, g14, g15⟩ := at_kid (Kd.C_below HC.out HB.out) q hkl
       subst e
       have HK' := Aside0.mk hK'
       clear hK'
       have HM := Aside0.mk (List.getElem_mem hkl)
       have HN := Aside0.mk (show lostL (n.f5.drop q) s = lostL (n.f5.drop (q + 1)) (wrap64 (s + lostS n.f5[q])) by rw [List.drop_eq_getElem_cons hkl, lostL])
       have HCk := Aside0.mk (HI.out n.f5[q] A' c' wr (by have := kid_lt HM.out; have := HD.out; omega) HK'.out)
       go_wp2_with (go_at_call 16; (with_reducible refine HCk.out.mono ?_); rintro e w1 ⟨rfl, hb⟩; have HB1 := Aside0.mk hb; clear hb)
       refine ⟨⟨q + 1, wrap64 (s + lostS n.f5[q]), by omega, by go_num, rfl, ⟨HX.out.trans HN.out⟩, ⟨below_step HB.out HB1.out⟩, ⟨blk_below HBk.out HB1.out⟩⟩, ?_⟩
       simp [intOf]; omega
      ·have HN := Aside0.mk (show lostL (n.f5.drop q) s = s by rw [List.drop_of_length_le (by omega), lostL])
       go_wp2
       go_ret
       exact ⟨ret_i (HX.out.trans HN.out).symm, HB.out⟩
    ·obtain rfl : s = 0 := by have := HE.out; rw [if_neg (fun h => h2 h.2)] at this; exact this
     have h2b : (n.f1.f4 == 3) = false := by simp [h2]
     go_wp2
     go_loopw [3, 4] (fun v i wr => ∃ (q : Nat) (s : Int), q ≤ n.f5.length ∧ i = .int .i64 q ∧ v = .int .i64 s ∧ Aside0 (r = lostL (n.f5.drop q) s) ∧ Aside0 (Below w.heap.size w wr) ∧ Aside0 (wr.heap[w.heap.size]? = some (.cells (nodeA n A c) 33 (0, 0)))) (fun _ i _ => n.f5.length - (intOf i).toNat)
     case atStart => exact ⟨0, _, by omega, rfl, rfl, HS, ⟨bel1 w _⟩, ⟨newBlk w _⟩⟩
     case round =>
      clear HS HE
      obtain ⟨q, s, hk, rfl, rfl, HX, HB, HBk⟩ := hrel
      have hc15 : wr.cell? ⟨w.heap.size, 15, none⟩ = some (.slice A n.f5.length c) := (blk_cell HBk.out 15).trans rfl
      by_cases hkl : q < n.f5.length
      ·obtain ⟨ad, A', c', e, hK', g0, g1, g2, g3, g4, g5, g6, g7, g8, g9, g10, g11, g12, g13, g14, g15⟩ := at_kid (Kd.C_below HC.out HB.out) q hkl
       subst e
       have HK' := Aside0.mk hK'
       clear hK'
       have HM := Aside0.mk (List.getElem_mem hkl)
       have HN := Aside0.mk (show lostL (n.f5.drop q) s = lostL (n.f5.drop (q + 1)) (wrap64 (s + lostS n.f5[q])) by rw [List.drop_eq_getElem_cons hkl, lostL])
       have HCk := Aside0.mk (HI.out n.f5[q] A' c' wr (by have := kid_lt HM.out; have := HD.out; omega) HK'.out)
       go_wp2_with (go_at_call 16; (with_reducible refine HCk.out.mono ?_); rintro e w1 ⟨rfl, hb⟩; have HB1 := Aside0.mk hb; clear hb)
       refine ⟨⟨q + 1, wrap64 (s + lostS n.f5[q]), by omega, by go_num, rfl, ⟨HX.out.trans HN.out⟩, ⟨below_step HB.out HB1.out⟩, ⟨blk_below HBk.out HB1.out⟩⟩, ?_⟩
       simp [intOf]; omega
      ·have HN := Aside0.mk (show lostL (n.f5.drop q) s = s by rw [List.drop_of_length_le (by omega), lostL])
       go_wp2
       go_ret
       exact ⟨ret_i (HX.out.trans HN.out).symm, HB.out⟩
   ·obtain rfl : s = 0 := by have := HE.out; rw [if_neg (fun h => h1 h.1)] at this; exact this
    have h1b : (n.f0 == 1) = false := by simp [h1]
    go_wp2
    go_loopw [3, 4] (fun v i wr => ∃ (q : Nat) (s : Int), q ≤ n.f5.length ∧ i = .int .i64 q ∧ v = .int .i64 s ∧ Aside0 (r = lostL (n.f5.drop q) s) ∧ Aside0 (Below w.heap.size w wr) ∧ Aside0 (wr.heap[w.heap.size]? = some (.cells (nodeA n A c) 33 (0, 0)))) (fun _ i _ => n.f5.length - (intOf i).toNat)
    case atStart => exact ⟨0, _, by omega, rfl, rfl, HS, ⟨bel1 w _⟩, ⟨newBlk w _⟩⟩
    case round =>
     clear HS HE
     obtain ⟨q, s, hk, rfl, rfl, HX, HB, HBk⟩ := hrel
     have hc15 : wr.cell? ⟨w.heap.size, 15, none⟩ = some (.slice A n.f5.length c) := (blk_cell HBk.out 15).trans rfl
     by_cases hkl : q < n.f5.length
     ·obtain ⟨ad, A', c', e, hK', g0, g1, g2, g3, g4, g5, g6, g7, g8, g9, g10, g11, g12, g13, g14, g15⟩ := at_kid (Kd.C_below HC.out HB.out) q hkl
      subst e
      have HK' := Aside0.mk hK'
      clear hK'
      have HM := Aside0.mk (List.getElem_mem hkl)
      have HN := Aside0.mk (show lostL (n.f5.drop q) s = lostL (n.f5.drop (q + 1)) (wrap64 (s + lostS n.f5[q])) by rw [List.drop_eq_getElem_cons hkl, lostL])
      have HCk := Aside0.mk (HI.out n.f5[q] A' c' wr (by have := kid_lt HM.out; have := HD.out; omega) HK'.out)
      go_wp2_with (go_at_call 16; (with_reducible refine HCk.out.mono ?_); rintro e w1 ⟨rfl, hb⟩; have HB1 := Aside0.mk hb; clear hb)
      refine ⟨⟨q + 1, wrap64 (s + lostS n.f5[q]), by omega, by go_num, rfl, ⟨HX.out.trans HN.out⟩, ⟨below_step HB.out HB1.out⟩, ⟨blk_below HBk.out HB1.out⟩⟩, ?_⟩
      simp [intOf]; omega
     ·have HN := Aside0.mk (show lostL (n.f5.drop q) s = s by rw [List.drop_of_length_le (by omega), lostL])
      go_wp2
      go_ret
      exact ⟨ret_i (HX.out.trans HN.out).symm, HB.out⟩
  exact main _ HR ⟨rfl⟩
end Go.Proofs.YthnldbclbfpojaaGreatDoor.Pr
end
section
namespace Go.Proofs.YthnldbclbfpojaaGreatDoor.Pr
mutual
theorem fewS : ∀ (n : Nd) (m : Int), 0 ≤ m → m ≤ 4096 → nodesS n m ≤ m → allS fewB n = true
 | ⟨a, b, c, t, s, l⟩, m, h0, h1, h => by
  rw [nodesS] at h
  have h2 := fewL l m 1 h0 h1 (by omega) (by omega) h
  rw [allS, Bool.and_eq_true]
  exact ⟨decide_eq_true (by show l.length ≤ 4096; omega), h2.2⟩
theorem fewL : ∀ (l : List Nd) (m a : Int), 0 ≤ m → m ≤ 4096 → 1 ≤ a → a ≤ m + 1 → nodesL l m a ≤ m → a + l.length ≤ m ∧ allL fewB l = true
 | [], m, a, h0, h1, h2, h3, h => by
  rw [nodesL] at h
  exact ⟨by simpa using h, by rw [allL]⟩
 | x :: r, m, a, h0, h1, h2, h3, h => by
  rw [nodesL] at h
  by_cases ha : a ≤ m
  ·rw [if_pos ha] at h
   have hb := nodesS_bd x (m - a) (by omega)
   have h4 := fewL r m (a + nodesS x (m - a)) h0 h1 (by omega) (by omega) h
   have h5 := fewS x (m - a) (by omega) (by omega) (by omega)
   refine ⟨?_, by rw [allL, h5, h4.2]; rfl⟩
   rw [List.length_cons]
   push_cast
   omega
  ·rw [if_neg ha] at h
   omega
end
mutual
theorem allS_and {C D E : Nd → Bool} (h : ∀ n, C n = true → D n = true → E n = true) : ∀ n : Nd, allS C n = true → allS D n = true → allS E n = true
 | ⟨a, b, c, t, s, l⟩, h1, h2 => by
  rw [allS, Bool.and_eq_true] at h1 h2 ⊢
  exact ⟨h _ h1.1 h2.1, allL_and h l h1.2 h2.2⟩
theorem allL_and {C D E : Nd → Bool} (h : ∀ n, C n = true → D n = true → E n = true) : ∀ l : List Nd, allL C l = true → allL D l = true → allL E l = true
 | [], _, _ => by rw [allL]
 | x :: r, h1, h2 => by
  rw [allL, Bool.and_eq_true] at h1 h2 ⊢
  exact ⟨allS_and h x h1.1 h2.1, allL_and h r h1.2 h2.2⟩
end
theorem leaf_of_check {n : Nd} (h : checkI n = 0) : allS leafB n = true := by
 unfold checkI at h
 by_cases h1 : levelsS n 160 > 160
 ·rw [if_pos h1] at h; cases h
 rw [if_neg h1] at h
 by_cases h2 : nodesS n 4096 > 4096
 ·rw [if_pos h2] at h; cases h
 rw [if_neg h2] at h
 cases h3 : rightS n with
 | false => rw [h3, if_pos rfl] at h; cases h
 | true =>
  refine allS_and (C := fewB) (fun x hf hr => ?_) n (fewS n 4096 (by omega) (by omega) (by omega)) h3
  rw [Bool.and_eq_true] at hr
  have hk := hr.2
  unfold leafB
  rw [Bool.and_eq_true]
  refine ⟨hf, ?_⟩
  rw [Bool.or_eq_true]
  by_cases h4 : x.f0 = 2
  ·right
   unfold kindB at hk
   rw [if_neg (by omega), if_pos h4, Bool.and_eq_true] at hk
   exact hk.1
  ·by_cases h5 : x.f0 = 3
   ·right
    unfold kindB at hk
    rw [if_neg (by omega), if_neg h4, if_pos h5, Bool.and_eq_true] at hk
    exact hk.1
   ·left
    exact decide_eq_true ⟨h4, h5⟩
end Go.Proofs.YthnldbclbfpojaaGreatDoor.Pr
end
