/-
  Lemmas for the law RFollowsRBack.
-/
import Derived.Test.YthnldbclbfpojaaGreatDoorSRFollowsRBack13
import Derived.Test.YthnldbclbfpojaaGreatDoorSRFollowsRBack5
import Derived.Test.YthnldbclbfpojaaGreatDoorSRFollowsRBack31
set_option maxHeartbeats 8000000
set_option maxRecDepth 100000
set_option linter.unusedVariables false
set_option linter.unusedSimpArgs false
section
namespace Go.Proofs.YthnldbclbfpojaaGreatDoor.Pr
open Go.RowKit Go.Proofs.YthnldbclbfpojaaGreatDoorW.PrintWords Go.Proofs.YthnldbclbfpojaaGreatDoorW.PrintLast Go.Proofs.YthnldbclbfpojaaGreatDoorW.PrintMore
abbrev rcA (t l o r : Int) : Array Value := #[.int .i64 t, .int .i64 l, .int .i64 o, .int .i64 r]
def moveRect.T7 : Bool × List (List Nat × List Nat) := (true, [([], []), ([0], [0]), ([], []), ([2], [2]), ([0, 1], []), ([4, 1, 0, 1], [1, 4]), ([0, 1, 2, 3, 4, 5], []), ([6, 3, 5, 0, 1, 2, 3, 4, 5], [3, 6])])
def moveRect.B7 : List Nat := [0, 1, 0, 4, 3, 19, 63, 127]
theorem moveRect.tab7 : rtab .any (opsOf Tryz.f73 7) = moveRect.T7 := by kernel_rfl
theorem moveRect.bits7 : waitsOk moveRect.T7.2 moveRect.B7 = true := by kernel_rfl
def moveRect.T11 : Bool × List (List Nat × List Nat) := (true, [([], []), ([0], [0]), ([], []), ([2], [2]), ([0, 1], []), ([4, 1, 0, 1], [1, 4]), ([0, 1, 2, 3, 4, 5], []), ([6, 3, 5, 0, 1, 2, 3, 4, 5], [3, 6])])
def moveRect.B11 : List Nat := [0, 1, 0, 4, 3, 19, 63, 127]
theorem moveRect.tab11 : rtab .any (opsOf Tryz.f73 11) = moveRect.T11 := by kernel_rfl
theorem moveRect.bits11 : waitsOk moveRect.T11.2 moveRect.B11 = true := by kernel_rfl
theorem rect_rows (a b c t l o r x y : Int) (w : World) (HC : Aside0 (move_Check.f a b c = some 0)) (HP : Aside0 (place_Check.f t l o r = some 0)) (HR : Aside0 (move_rows.f a b c = some true)) (HL : Aside0 (∀ W : World, Calls Tryz.prog 98 #[.agg (spA t o), .agg (edA a b c)] W fun e w' => e = .returned (.agg (spA x y)) ∧ Below W.heap.size W w')) (hxy : (x == 0) = false) :
  Calls Tryz.prog 73 #[.agg (edA a b c), .agg (rcA t l o r)] w fun e w' => e = .returned (.tuple #[.agg (rcA x l y r), .bool true, .int .i64 0]) ∧ Below w.heap.size w w' := by
 have HR2 := Aside0.mk HR.out
 go_enter Tryz.func73, Tryz.ntmps73
 go_wp2_with (first
  | (go_at_call 37; (with_reducible refine (move_Check.calls _ _ _ _ _ HC.out).mono ?_); rintro e w1 ⟨rfl, hb⟩; have HB1 := Aside0.mk (below_step (bel3 w _ _ _) hb); have A2 := Aside0.mk (blk_below (newBlk3a w _ _ _) hb); have A3 := Aside0.mk (blk_below (newBlk3b w _ _ _) hb); have A4 := Aside0.mk (blk_below (newBlk3c w _ _ _) hb); clear hb; have hc := fun i => blk_cell A3.out i)
  | (go_at_call 49; (with_reducible refine (place_Check.calls _ _ _ _ _ _ HP.out).mono ?_); rintro e w2 ⟨rfl, hb⟩; have HB2 := Aside0.mk (below_step HB1.out hb); have B2 := Aside0.mk (blk_below A2.out hb); have B3 := Aside0.mk (blk_below A3.out hb); have B4 := Aside0.mk (blk_below A4.out hb); clear hb hc; have hc := fun i => blk_cell B3.out i; have hd := fun (o : Obj) (i : Nat) => blk_cell (blk_alloc B2.out o) i)
  | (go_at_call 43; (with_reducible refine (move_rows.calls _ _ _ _ _ HR.out).mono ?_); clear HR; rintro e w3 ⟨rfl, hb⟩; have HB3 := Aside0.mk (below_step (below_alloc HB2.out _) hb); have C2 := Aside0.mk (blk_below (blk_alloc B2.out _) hb); have C3 := Aside0.mk (blk_below (blk_alloc B3.out _) hb); have C4 := Aside0.mk (blk_below (blk_alloc B4.out _) hb); have C7 := Aside0.mk (blk_below (newBlk w2 _) hb); have hg := blk_lt B4.out; clear hb hc hd; have hc := fun i => blk_cell C3.out i; have hd := fun i => blk_cell C2.out i; have he := fun i => blk_cell C7.out i)
  | ((with_reducible refine gate_store (t := 96) (p := 7) (v := .tmp 28) rfl ?_); refine wpRowSt rfl 96 (.tmp 7) (.tmp 28) rfl (w2.heap.size) (spA t o) rfl rfl 96 _ (C7.out) (by kernel_rfl) rfl rfl ?_; clear hc hd he; have hd := fun i => blk_cell (rowOther (spA t o) C2.out (g := w2.heap.size) (by omega)) i; have he := fun i => blk_cell (setRow_heap _ _ _ (spA t o) _ _ C7.out) i)
  | (go_at_call 98; (with_reducible refine (HL.out _).mono ?_); rintro e w4 ⟨rfl, hb⟩; have HB4 := Aside0.mk (below_step (rowBelow HB3.out (show w.heap.size ≤ w2.heap.size by omega) (spA t o)) hb); have D2 := Aside0.mk (blk_below (rowOther (spA t o) C2.out (g := w2.heap.size) (by omega)) hb); have D3 := Aside0.mk (blk_below (rowOther (spA t o) C3.out (g := w2.heap.size) (by omega)) hb); have D4 := Aside0.mk (blk_below (rowOther (spA t o) C4.out (g := w2.heap.size) (by omega)) hb); have D7 := Aside0.mk (blk_below (setRow_heap _ _ _ (spA t o) _ _ C7.out) hb); clear hb hd he)
  | ((with_reducible refine gate_store (t := 96) (p := 7) (v := .tmp 31) rfl ?_); refine wpRowSt rfl 96 (.tmp 7) (.tmp 31) rfl (w2.heap.size) (spA x y) rfl rfl 96 _ (D7.out) (by kernel_rfl) rfl rfl ?_; have hd := fun i => blk_cell (rowOther (spA x y) D2.out (g := w2.heap.size) (by omega)) i; have he := fun i => blk_cell (setRow_heap _ _ _ (spA x y) _ _ D7.out) i)
  | (go_at_call 43; (with_reducible refine (move_rows.calls _ _ _ _ _ HR2.out).mono ?_); rintro e w5 ⟨rfl, hb⟩; have HB5 := Aside0.mk (below_step (rowBelow HB4.out (show w.heap.size ≤ w2.heap.size by omega) (spA x y)) hb); have E3 := Aside0.mk (blk_below (rowOther (spA x y) D3.out (g := w2.heap.size) (by omega)) hb); have E4 := Aside0.mk (blk_below (rowOther (spA x y) D4.out (g := w2.heap.size) (by omega)) hb); have E7 := Aside0.mk (blk_below (setRow_heap _ _ _ (spA x y) _ _ D7.out) hb); clear hb hd he))
 have hne : w2.heap.size ≠ w.heap.size + 1 := by omega
 have hne4 : w.heap.size + 2 ≠ w.heap.size + 1 := by omega
 refine start_ (n := 8) (S := (fun w' => w'.heap[w2.heap.size]? = some (.cells (spA x y) 96 (0, 0)))) (ds := [7]) (Array.replicate 8 false) (by kernel_rfl) rfl rfl (blk_drew E7.out) (fun hHeld => ?_)
 refine with_tabW moveRect.tab11 moveRect.bits11 (fun HT_ HW_ => ?_)
 refine pz 0 46 HT_ ?_; refine pz 2 48 HT_ ?_
 refine tz 1 47 HT_ HW_ (hr := (by rintro w' s0; have q := fun i => blk_cell s0 i; go_simp; with_reducible rfl)) (hS := hHeld) (h := ?_)
 refine pz 4 50 HT_ ?_
 refine tz 3 49 HT_ HW_ (hr := (by rintro w' s0; have q := fun i => blk_cell s0 i; go_simp; with_reducible rfl)) (hS := hHeld) (h := ?_)
 refine oneI 5 none HT_ rfl rfl (by kernel_rfl) (by decide) (fun K hK => ?_)
 have hs := fun i => blk_cell E3.out i
 have hf := fun i => blk_frozen E3.out i
 refine skip_ (w1 := ?_) (by rfl) rfl ?_ ?_
 rotate_left
 ·go_simp
  rfl
 refine hK.out _ _ (blk_drew (blk_far (p := ⟨w.heap.size + 1, 0, none⟩) E7.out hne _)) (fun hHeld => ?_)
 clear hK K
 -- norm_
 refine pz 6 51 HT_ ?_
 refine lastI 7 none HT_ rfl rfl (by kernel_rfl) (by decide) (fun K hK => ?_)
 refine skip_ (w1 := ?_) (by rfl) rfl ?_ ?_
 rotate_left
 ·go_simp
  rfl
 refine hK.out _ _ ?_
 clear hK K
 -- norm_
 refine done_ (done_of HT_.out (by kernel_rfl)) ?_
 go_wp2_with (((with_reducible refine gate_store (t := 64) (p := 4) (v := .tmp 52) rfl ?_); refine wpRowSt rfl 64 (.tmp 4) (.tmp 52) rfl (w.heap.size + 2) (rcA x l y r) rfl rfl 64 _ (blk_drew (blk_far (p := ⟨w.heap.size + 1, 2, none⟩) (blk_far (p := ⟨w.heap.size + 1, 0, none⟩) E4.out hne4 _) hne4 _)) (by kernel_rfl) rfl rfl ?_))
 refine bodyPost_ret (results_ctt rfl _ _ (w.heap.size + 2) 64 (rcA x l y r) (0, 0) _ rfl (setRow_heap _ _ _ _ _ _ (blk_drew (blk_far (p := ⟨w.heap.size + 1, 2, none⟩) (blk_far (p := ⟨w.heap.size + 1, 0, none⟩) E4.out hne4 _) hne4 _))) Tryz.underlying64 rfl (by kernel_rfl)) rfl ?_
 exact ⟨rfl, rowBelow (below_drew1 (below_set (below_set HB5.out (Nat.le_succ _)) (Nat.le_succ _))) (by omega) _⟩
theorem rect_rows0 (a b c t l o r y : Int) (w : World) (HC : Aside0 (move_Check.f a b c = some 0)) (HP : Aside0 (place_Check.f t l o r = some 0)) (HR : Aside0 (move_rows.f a b c = some true)) (HL : Aside0 (∀ W : World, Calls Tryz.prog 98 #[.agg (spA t o), .agg (edA a b c)] W fun e w' => e = .returned (.agg (spA 0 y)) ∧ Below W.heap.size W w')) (hxy : (y == 0) = false) :
  Calls Tryz.prog 73 #[.agg (edA a b c), .agg (rcA t l o r)] w fun e w' => e = .returned (.tuple #[.agg (rcA 0 l y r), .bool true, .int .i64 0]) ∧ Below w.heap.size w w' := by
 have HR2 := Aside0.mk HR.out
 go_enter Tryz.func73, Tryz.ntmps73
 go_wp2_with (first
  | (go_at_call 37; (with_reducible refine (move_Check.calls _ _ _ _ _ HC.out).mono ?_); rintro e w1 ⟨rfl, hb⟩; have HB1 := Aside0.mk (below_step (bel3 w _ _ _) hb); have A2 := Aside0.mk (blk_below (newBlk3a w _ _ _) hb); have A3 := Aside0.mk (blk_below (newBlk3b w _ _ _) hb); have A4 := Aside0.mk (blk_below (newBlk3c w _ _ _) hb); clear hb; have hc := fun i => blk_cell A3.out i)
  | (go_at_call 49; (with_reducible refine (place_Check.calls _ _ _ _ _ _ HP.out).mono ?_); rintro e w2 ⟨rfl, hb⟩; have HB2 := Aside0.mk (below_step HB1.out hb); have B2 := Aside0.mk (blk_below A2.out hb); have B3 := Aside0.mk (blk_below A3.out hb); have B4 := Aside0.mk (blk_below A4.out hb); clear hb hc; have hc := fun i => blk_cell B3.out i; have hd := fun (o : Obj) (i : Nat) => blk_cell (blk_alloc B2.out o) i)
  | (go_at_call 43; (with_reducible refine (move_rows.calls _ _ _ _ _ HR.out).mono ?_); clear HR; rintro e w3 ⟨rfl, hb⟩; have HB3 := Aside0.mk (below_step (below_alloc HB2.out _) hb); have C2 := Aside0.mk (blk_below (blk_alloc B2.out _) hb); have C3 := Aside0.mk (blk_below (blk_alloc B3.out _) hb); have C4 := Aside0.mk (blk_below (blk_alloc B4.out _) hb); have C7 := Aside0.mk (blk_below (newBlk w2 _) hb); have hg := blk_lt B4.out; clear hb hc hd; have hc := fun i => blk_cell C3.out i; have hd := fun i => blk_cell C2.out i; have he := fun i => blk_cell C7.out i)
  | ((with_reducible refine gate_store (t := 96) (p := 7) (v := .tmp 28) rfl ?_); refine wpRowSt rfl 96 (.tmp 7) (.tmp 28) rfl (w2.heap.size) (spA t o) rfl rfl 96 _ (C7.out) (by kernel_rfl) rfl rfl ?_; clear hc hd he; have hd := fun i => blk_cell (rowOther (spA t o) C2.out (g := w2.heap.size) (by omega)) i; have he := fun i => blk_cell (setRow_heap _ _ _ (spA t o) _ _ C7.out) i)
  | (go_at_call 98; (with_reducible refine (HL.out _).mono ?_); rintro e w4 ⟨rfl, hb⟩; have HB4 := Aside0.mk (below_step (rowBelow HB3.out (show w.heap.size ≤ w2.heap.size by omega) (spA t o)) hb); have D2 := Aside0.mk (blk_below (rowOther (spA t o) C2.out (g := w2.heap.size) (by omega)) hb); have D3 := Aside0.mk (blk_below (rowOther (spA t o) C3.out (g := w2.heap.size) (by omega)) hb); have D4 := Aside0.mk (blk_below (rowOther (spA t o) C4.out (g := w2.heap.size) (by omega)) hb); have D7 := Aside0.mk (blk_below (setRow_heap _ _ _ (spA t o) _ _ C7.out) hb); clear hb hd he)
  | ((with_reducible refine gate_store (t := 96) (p := 7) (v := .tmp 31) rfl ?_); refine wpRowSt rfl 96 (.tmp 7) (.tmp 31) rfl (w2.heap.size) (spA 0 y) rfl rfl 96 _ (D7.out) (by kernel_rfl) rfl rfl ?_; have hd := fun i => blk_cell (rowOther (spA 0 y) D2.out (g := w2.heap.size) (by omega)) i; have he := fun i => blk_cell (setRow_heap _ _ _ (spA 0 y) _ _ D7.out) i)
  | (go_at_call 43; (with_reducible refine (move_rows.calls _ _ _ _ _ HR2.out).mono ?_); rintro e w5 ⟨rfl, hb⟩; have HB5 := Aside0.mk (below_step (rowBelow HB4.out (show w.heap.size ≤ w2.heap.size by omega) (spA 0 y)) hb); have E3 := Aside0.mk (blk_below (rowOther (spA 0 y) D3.out (g := w2.heap.size) (by omega)) hb); have E4 := Aside0.mk (blk_below (rowOther (spA 0 y) D4.out (g := w2.heap.size) (by omega)) hb); have E7 := Aside0.mk (blk_below (setRow_heap _ _ _ (spA 0 y) _ _ D7.out) hb); clear hb hd he))
 have hne : w2.heap.size ≠ w.heap.size + 1 := by omega
 have hne4 : w.heap.size + 2 ≠ w.heap.size + 1 := by omega
 refine start_ (n := 8) (S := (fun w' => w'.heap[w2.heap.size]? = some (.cells (spA 0 y) 96 (0, 0)))) (ds := [7]) (Array.replicate 8 false) (by kernel_rfl) rfl rfl (blk_drew E7.out) (fun hHeld => ?_)
 refine with_tabW moveRect.tab11 moveRect.bits11 (fun HT_ HW_ => ?_)
 refine pz 0 46 HT_ ?_; refine pz 2 48 HT_ ?_
 refine tz 1 47 HT_ HW_ (hr := (by rintro w' s0; have q := fun i => blk_cell s0 i; go_simp; with_reducible rfl)) (hS := hHeld) (h := ?_)
 refine pz 4 50 HT_ ?_
 refine tz 3 49 HT_ HW_ (hr := (by rintro w' s0; have q := fun i => blk_cell s0 i; go_simp; with_reducible rfl)) (hS := hHeld) (h := ?_)
 refine oneI 5 none HT_ rfl rfl (by kernel_rfl) (by decide) (fun K hK => ?_)
 have hs := fun i => blk_cell E3.out i
 have hf := fun i => blk_frozen E3.out i
 refine skip_ (w1 := ?_) (by rfl) rfl ?_ ?_
 rotate_left
 ·go_simp
  rfl
 refine hK.out _ _ (blk_drew (blk_far (p := ⟨w.heap.size + 1, 0, none⟩) E7.out hne _)) (fun hHeld => ?_)
 clear hK K
 -- norm_
 refine pz 6 51 HT_ ?_
 refine lastI 7 none HT_ rfl rfl (by kernel_rfl) (by decide) (fun K hK => ?_)
 refine skip_ (w1 := ?_) (by rfl) rfl ?_ ?_
 rotate_left
 ·go_simp
  rfl
 refine hK.out _ _ ?_
 clear hK K
 -- norm_
 refine done_ (done_of HT_.out (by kernel_rfl)) ?_
 go_wp2_with (((with_reducible refine gate_store (t := 64) (p := 4) (v := .tmp 52) rfl ?_); refine wpRowSt rfl 64 (.tmp 4) (.tmp 52) rfl (w.heap.size + 2) (rcA 0 l y r) rfl rfl 64 _ (blk_drew (blk_far (p := ⟨w.heap.size + 1, 2, none⟩) (blk_far (p := ⟨w.heap.size + 1, 0, none⟩) E4.out hne4 _) hne4 _)) (by kernel_rfl) rfl rfl ?_))
 refine bodyPost_ret (results_ctt rfl _ _ (w.heap.size + 2) 64 (rcA 0 l y r) (0, 0) _ rfl (setRow_heap _ _ _ _ _ _ (blk_drew (blk_far (p := ⟨w.heap.size + 1, 2, none⟩) (blk_far (p := ⟨w.heap.size + 1, 0, none⟩) E4.out hne4 _) hne4 _))) Tryz.underlying64 rfl (by kernel_rfl)) rfl ?_
 exact ⟨rfl, rowBelow (below_drew1 (below_set (below_set HB5.out (Nat.le_succ _)) (Nat.le_succ _))) (by omega) _⟩
theorem rect_rows_no (a b c t l o r : Int) (w : World) (HC : Aside0 (move_Check.f a b c = some 0)) (HP : Aside0 (place_Check.f t l o r = some 0)) (HR : Aside0 (move_rows.f a b c = some true)) (HL : Aside0 (∀ W : World, Calls Tryz.prog 98 #[.agg (spA t o), .agg (edA a b c)] W fun e w' => e = .returned (.agg (spA 0 0)) ∧ Below W.heap.size W w'))  :
  Calls Tryz.prog 73 #[.agg (edA a b c), .agg (rcA t l o r)] w fun e w' => e = .returned (.tuple #[.agg (rcA 0 0 0 0), .bool false, .int .i64 0]) ∧ Below w.heap.size w w' := by
 have HR2 := Aside0.mk HR.out
 go_enter Tryz.func73, Tryz.ntmps73
 go_wp2_with (first
  | (go_at_call 37; (with_reducible refine (move_Check.calls _ _ _ _ _ HC.out).mono ?_); rintro e w1 ⟨rfl, hb⟩; have HB1 := Aside0.mk (below_step (bel3 w _ _ _) hb); have A2 := Aside0.mk (blk_below (newBlk3a w _ _ _) hb); have A3 := Aside0.mk (blk_below (newBlk3b w _ _ _) hb); have A4 := Aside0.mk (blk_below (newBlk3c w _ _ _) hb); clear hb; have hc := fun i => blk_cell A3.out i)
  | (go_at_call 49; (with_reducible refine (place_Check.calls _ _ _ _ _ _ HP.out).mono ?_); rintro e w2 ⟨rfl, hb⟩; have HB2 := Aside0.mk (below_step HB1.out hb); have B2 := Aside0.mk (blk_below A2.out hb); have B3 := Aside0.mk (blk_below A3.out hb); have B4 := Aside0.mk (blk_below A4.out hb); clear hb hc; have hc := fun i => blk_cell B3.out i; have hd := fun (o : Obj) (i : Nat) => blk_cell (blk_alloc B2.out o) i)
  | (go_at_call 43; (with_reducible refine (move_rows.calls _ _ _ _ _ HR.out).mono ?_); clear HR; rintro e w3 ⟨rfl, hb⟩; have HB3 := Aside0.mk (below_step (below_alloc HB2.out _) hb); have C2 := Aside0.mk (blk_below (blk_alloc B2.out _) hb); have C3 := Aside0.mk (blk_below (blk_alloc B3.out _) hb); have C4 := Aside0.mk (blk_below (blk_alloc B4.out _) hb); have C7 := Aside0.mk (blk_below (newBlk w2 _) hb); have hg := blk_lt B4.out; clear hb hc hd; have hc := fun i => blk_cell C3.out i; have hd := fun i => blk_cell C2.out i; have he := fun i => blk_cell C7.out i)
  | ((with_reducible refine gate_store (t := 96) (p := 7) (v := .tmp 28) rfl ?_); refine wpRowSt rfl 96 (.tmp 7) (.tmp 28) rfl (w2.heap.size) (spA t o) rfl rfl 96 _ (C7.out) (by kernel_rfl) rfl rfl ?_; clear hc hd he; have hd := fun i => blk_cell (rowOther (spA t o) C2.out (g := w2.heap.size) (by omega)) i; have he := fun i => blk_cell (setRow_heap _ _ _ (spA t o) _ _ C7.out) i)
  | (go_at_call 98; (with_reducible refine (HL.out _).mono ?_); rintro e w4 ⟨rfl, hb⟩; have HB4 := Aside0.mk (below_step (rowBelow HB3.out (show w.heap.size ≤ w2.heap.size by omega) (spA t o)) hb); have D2 := Aside0.mk (blk_below (rowOther (spA t o) C2.out (g := w2.heap.size) (by omega)) hb); have D3 := Aside0.mk (blk_below (rowOther (spA t o) C3.out (g := w2.heap.size) (by omega)) hb); have D4 := Aside0.mk (blk_below (rowOther (spA t o) C4.out (g := w2.heap.size) (by omega)) hb); have D7 := Aside0.mk (blk_below (setRow_heap _ _ _ (spA t o) _ _ C7.out) hb); clear hb hd he)
  | ((with_reducible refine gate_store (t := 96) (p := 7) (v := .tmp 31) rfl ?_); refine wpRowSt rfl 96 (.tmp 7) (.tmp 31) rfl (w2.heap.size) (spA 0 0) rfl rfl 96 _ (D7.out) (by kernel_rfl) rfl rfl ?_; have hd := fun i => blk_cell (rowOther (spA 0 0) D2.out (g := w2.heap.size) (by omega)) i; have he := fun i => blk_cell (setRow_heap _ _ _ (spA 0 0) _ _ D7.out) i)
  | ((with_reducible refine gate_store (t := 64) (p := 4) (v := .tmp 42) rfl ?_); refine wpRowSt rfl 64 (.tmp 4) (.tmp 42) rfl (w.heap.size + 2) (rcA 0 0 0 0) rfl rfl 64 _ ((rowOther (spA 0 0) D4.out (g := w2.heap.size) (by omega))) (by kernel_rfl) rfl rfl ?_))
 refine bodyPost_ret (results_ctt rfl _ _ (w.heap.size + 2) 64 (rcA 0 0 0 0) (0, 0) _ rfl (setRow_heap _ _ _ _ _ _ (rowOther (spA 0 0) D4.out (g := w2.heap.size) (by omega))) Tryz.underlying64 rfl (by kernel_rfl)) rfl ?_
 exact ⟨rfl, rowBelow (rowBelow HB4.out (show w.heap.size ≤ w2.heap.size by omega) _) (by omega) _⟩
theorem rect_cols (a b c t l o r x y : Int) (w : World) (HC : Aside0 (move_Check.f a b c = some 0)) (HP : Aside0 (place_Check.f t l o r = some 0)) (HR : Aside0 (move_rows.f a b c = some false)) (HL : Aside0 (∀ W : World, Calls Tryz.prog 98 #[.agg (spA l r), .agg (edA a b c)] W fun e w' => e = .returned (.agg (spA x y)) ∧ Below W.heap.size W w')) (hxy : (x == 0) = false) :
  Calls Tryz.prog 73 #[.agg (edA a b c), .agg (rcA t l o r)] w fun e w' => e = .returned (.tuple #[.agg (rcA t x o y), .bool true, .int .i64 0]) ∧ Below w.heap.size w w' := by
 have HR2 := Aside0.mk HR.out
 go_enter Tryz.func73, Tryz.ntmps73
 go_wp2_with (first
  | (go_at_call 37; (with_reducible refine (move_Check.calls _ _ _ _ _ HC.out).mono ?_); rintro e w1 ⟨rfl, hb⟩; have HB1 := Aside0.mk (below_step (bel3 w _ _ _) hb); have A2 := Aside0.mk (blk_below (newBlk3a w _ _ _) hb); have A3 := Aside0.mk (blk_below (newBlk3b w _ _ _) hb); have A4 := Aside0.mk (blk_below (newBlk3c w _ _ _) hb); clear hb; have hc := fun i => blk_cell A3.out i)
  | (go_at_call 49; (with_reducible refine (place_Check.calls _ _ _ _ _ _ HP.out).mono ?_); rintro e w2 ⟨rfl, hb⟩; have HB2 := Aside0.mk (below_step HB1.out hb); have B2 := Aside0.mk (blk_below A2.out hb); have B3 := Aside0.mk (blk_below A3.out hb); have B4 := Aside0.mk (blk_below A4.out hb); clear hb hc; have hc := fun i => blk_cell B3.out i; have hd := fun (o : Obj) (i : Nat) => blk_cell (blk_alloc B2.out o) i)
  | (go_at_call 43; (with_reducible refine (move_rows.calls _ _ _ _ _ HR.out).mono ?_); clear HR; rintro e w3 ⟨rfl, hb⟩; have HB3 := Aside0.mk (below_step (below_alloc HB2.out _) hb); have C2 := Aside0.mk (blk_below (blk_alloc B2.out _) hb); have C3 := Aside0.mk (blk_below (blk_alloc B3.out _) hb); have C4 := Aside0.mk (blk_below (blk_alloc B4.out _) hb); have C7 := Aside0.mk (blk_below (newBlk w2 _) hb); have hg := blk_lt B4.out; clear hb hc hd; have hc := fun i => blk_cell C3.out i; have hd := fun i => blk_cell C2.out i; have he := fun i => blk_cell C7.out i)
  | (go_at_call 98; (with_reducible refine (HL.out _).mono ?_); rintro e w4 ⟨rfl, hb⟩; have HB4 := Aside0.mk (below_step HB3.out hb); have D2 := Aside0.mk (blk_below (C2.out) hb); have D3 := Aside0.mk (blk_below (C3.out) hb); have D4 := Aside0.mk (blk_below (C4.out) hb); have D7 := Aside0.mk (blk_below (C7.out) hb); clear hb hd he)
  | ((with_reducible refine gate_store (t := 96) (p := 7) (v := .tmp 31) rfl ?_); refine wpRowSt rfl 96 (.tmp 7) (.tmp 31) rfl (w2.heap.size) (spA x y) rfl rfl 96 _ (D7.out) (by kernel_rfl) rfl rfl ?_; have hd := fun i => blk_cell (rowOther (spA x y) D2.out (g := w2.heap.size) (by omega)) i; have he := fun i => blk_cell (setRow_heap _ _ _ (spA x y) _ _ D7.out) i)
  | (go_at_call 43; (with_reducible refine (move_rows.calls _ _ _ _ _ HR2.out).mono ?_); rintro e w5 ⟨rfl, hb⟩; have HB5 := Aside0.mk (below_step (rowBelow HB4.out (show w.heap.size ≤ w2.heap.size by omega) (spA x y)) hb); have E3 := Aside0.mk (blk_below (rowOther (spA x y) D3.out (g := w2.heap.size) (by omega)) hb); have E4 := Aside0.mk (blk_below (rowOther (spA x y) D4.out (g := w2.heap.size) (by omega)) hb); have E7 := Aside0.mk (blk_below (setRow_heap _ _ _ (spA x y) _ _ D7.out) hb); clear hb hd he))
 have hne : w2.heap.size ≠ w.heap.size + 1 := by omega
 have hne4 : w.heap.size + 2 ≠ w.heap.size + 1 := by omega
 refine start_ (n := 8) (S := (fun w' => w'.heap[w2.heap.size]? = some (.cells (spA x y) 96 (0, 0)))) (ds := [7]) (Array.replicate 8 false) (by kernel_rfl) rfl rfl (blk_drew E7.out) (fun hHeld => ?_)
 refine with_tabW moveRect.tab7 moveRect.bits7 (fun HT_ HW_ => ?_)
 refine pz 0 32 HT_ ?_; refine pz 2 34 HT_ ?_
 refine tz 1 33 HT_ HW_ (hr := (by rintro w' s0; have q := fun i => blk_cell s0 i; go_simp; with_reducible rfl)) (hS := hHeld) (h := ?_)
 refine pz 4 36 HT_ ?_
 refine tz 3 35 HT_ HW_ (hr := (by rintro w' s0; have q := fun i => blk_cell s0 i; go_simp; with_reducible rfl)) (hS := hHeld) (h := ?_)
 refine oneI 5 none HT_ rfl rfl (by kernel_rfl) (by decide) (fun K hK => ?_)
 have hs := fun i => blk_cell E3.out i
 have hf := fun i => blk_frozen E3.out i
 refine skip_ (w1 := ?_) (by rfl) rfl ?_ ?_
 rotate_left
 ·go_simp
  rfl
 refine hK.out _ _ (blk_drew (blk_far (p := ⟨w.heap.size + 1, 1, none⟩) E7.out hne _)) (fun hHeld => ?_)
 clear hK K
 -- norm_
 refine pz 6 37 HT_ ?_
 refine lastI 7 none HT_ rfl rfl (by kernel_rfl) (by decide) (fun K hK => ?_)
 refine skip_ (w1 := ?_) (by rfl) rfl ?_ ?_
 rotate_left
 ·go_simp
  rfl
 refine hK.out _ _ ?_
 clear hK K
 -- norm_
 refine done_ (done_of HT_.out (by kernel_rfl)) ?_
 go_wp2_with (((with_reducible refine gate_store (t := 64) (p := 4) (v := .tmp 52) rfl ?_); refine wpRowSt rfl 64 (.tmp 4) (.tmp 52) rfl (w.heap.size + 2) (rcA t x o y) rfl rfl 64 _ (blk_drew (blk_far (p := ⟨w.heap.size + 1, 3, none⟩) (blk_far (p := ⟨w.heap.size + 1, 1, none⟩) E4.out hne4 _) hne4 _)) (by kernel_rfl) rfl rfl ?_))
 refine bodyPost_ret (results_ctt rfl _ _ (w.heap.size + 2) 64 (rcA t x o y) (0, 0) _ rfl (setRow_heap _ _ _ _ _ _ (blk_drew (blk_far (p := ⟨w.heap.size + 1, 3, none⟩) (blk_far (p := ⟨w.heap.size + 1, 1, none⟩) E4.out hne4 _) hne4 _))) Tryz.underlying64 rfl (by kernel_rfl)) rfl ?_
 exact ⟨rfl, rowBelow (below_drew1 (below_set (below_set HB5.out (Nat.le_succ _)) (Nat.le_succ _))) (by omega) _⟩
theorem rect_cols0 (a b c t l o r y : Int) (w : World) (HC : Aside0 (move_Check.f a b c = some 0)) (HP : Aside0 (place_Check.f t l o r = some 0)) (HR : Aside0 (move_rows.f a b c = some false)) (HL : Aside0 (∀ W : World, Calls Tryz.prog 98 #[.agg (spA l r), .agg (edA a b c)] W fun e w' => e = .returned (.agg (spA 0 y)) ∧ Below W.heap.size W w')) (hxy : (y == 0) = false) :
  Calls Tryz.prog 73 #[.agg (edA a b c), .agg (rcA t l o r)] w fun e w' => e = .returned (.tuple #[.agg (rcA t 0 o y), .bool true, .int .i64 0]) ∧ Below w.heap.size w w' := by
 have HR2 := Aside0.mk HR.out
 go_enter Tryz.func73, Tryz.ntmps73
 go_wp2_with (first
  | (go_at_call 37; (with_reducible refine (move_Check.calls _ _ _ _ _ HC.out).mono ?_); rintro e w1 ⟨rfl, hb⟩; have HB1 := Aside0.mk (below_step (bel3 w _ _ _) hb); have A2 := Aside0.mk (blk_below (newBlk3a w _ _ _) hb); have A3 := Aside0.mk (blk_below (newBlk3b w _ _ _) hb); have A4 := Aside0.mk (blk_below (newBlk3c w _ _ _) hb); clear hb; have hc := fun i => blk_cell A3.out i)
  | (go_at_call 49; (with_reducible refine (place_Check.calls _ _ _ _ _ _ HP.out).mono ?_); rintro e w2 ⟨rfl, hb⟩; have HB2 := Aside0.mk (below_step HB1.out hb); have B2 := Aside0.mk (blk_below A2.out hb); have B3 := Aside0.mk (blk_below A3.out hb); have B4 := Aside0.mk (blk_below A4.out hb); clear hb hc; have hc := fun i => blk_cell B3.out i; have hd := fun (o : Obj) (i : Nat) => blk_cell (blk_alloc B2.out o) i)
  | (go_at_call 43; (with_reducible refine (move_rows.calls _ _ _ _ _ HR.out).mono ?_); clear HR; rintro e w3 ⟨rfl, hb⟩; have HB3 := Aside0.mk (below_step (below_alloc HB2.out _) hb); have C2 := Aside0.mk (blk_below (blk_alloc B2.out _) hb); have C3 := Aside0.mk (blk_below (blk_alloc B3.out _) hb); have C4 := Aside0.mk (blk_below (blk_alloc B4.out _) hb); have C7 := Aside0.mk (blk_below (newBlk w2 _) hb); have hg := blk_lt B4.out; clear hb hc hd; have hc := fun i => blk_cell C3.out i; have hd := fun i => blk_cell C2.out i; have he := fun i => blk_cell C7.out i)
  | (go_at_call 98; (with_reducible refine (HL.out _).mono ?_); rintro e w4 ⟨rfl, hb⟩; have HB4 := Aside0.mk (below_step HB3.out hb); have D2 := Aside0.mk (blk_below (C2.out) hb); have D3 := Aside0.mk (blk_below (C3.out) hb); have D4 := Aside0.mk (blk_below (C4.out) hb); have D7 := Aside0.mk (blk_below (C7.out) hb); clear hb hd he)
  | ((with_reducible refine gate_store (t := 96) (p := 7) (v := .tmp 31) rfl ?_); refine wpRowSt rfl 96 (.tmp 7) (.tmp 31) rfl (w2.heap.size) (spA 0 y) rfl rfl 96 _ (D7.out) (by kernel_rfl) rfl rfl ?_; have hd := fun i => blk_cell (rowOther (spA 0 y) D2.out (g := w2.heap.size) (by omega)) i; have he := fun i => blk_cell (setRow_heap _ _ _ (spA 0 y) _ _ D7.out) i)
  | (go_at_call 43; (with_reducible refine (move_rows.calls _ _ _ _ _ HR2.out).mono ?_); rintro e w5 ⟨rfl, hb⟩; have HB5 := Aside0.mk (below_step (rowBelow HB4.out (show w.heap.size ≤ w2.heap.size by omega) (spA 0 y)) hb); have E3 := Aside0.mk (blk_below (rowOther (spA 0 y) D3.out (g := w2.heap.size) (by omega)) hb); have E4 := Aside0.mk (blk_below (rowOther (spA 0 y) D4.out (g := w2.heap.size) (by omega)) hb); have E7 := Aside0.mk (blk_below (setRow_heap _ _ _ (spA 0 y) _ _ D7.out) hb); clear hb hd he))
 have hne : w2.heap.size ≠ w.heap.size + 1 := by omega
 have hne4 : w.heap.size + 2 ≠ w.heap.size + 1 := by omega
 refine start_ (n := 8) (S := (fun w' => w'.heap[w2.heap.size]? = some (.cells (spA 0 y) 96 (0, 0)))) (ds := [7]) (Array.replicate 8 false) (by kernel_rfl) rfl rfl (blk_drew E7.out) (fun hHeld => ?_)
 refine with_tabW moveRect.tab7 moveRect.bits7 (fun HT_ HW_ => ?_)
 refine pz 0 32 HT_ ?_; refine pz 2 34 HT_ ?_
 refine tz 1 33 HT_ HW_ (hr := (by rintro w' s0; have q := fun i => blk_cell s0 i; go_simp; with_reducible rfl)) (hS := hHeld) (h := ?_)
 refine pz 4 36 HT_ ?_
 refine tz 3 35 HT_ HW_ (hr := (by rintro w' s0; have q := fun i => blk_cell s0 i; go_simp; with_reducible rfl)) (hS := hHeld) (h := ?_)
 refine oneI 5 none HT_ rfl rfl (by kernel_rfl) (by decide) (fun K hK => ?_)
 have hs := fun i => blk_cell E3.out i
 have hf := fun i => blk_frozen E3.out i
 refine skip_ (w1 := ?_) (by rfl) rfl ?_ ?_
 rotate_left
 ·go_simp
  rfl
 refine hK.out _ _ (blk_drew (blk_far (p := ⟨w.heap.size + 1, 1, none⟩) E7.out hne _)) (fun hHeld => ?_)
 clear hK K
 -- norm_
 refine pz 6 37 HT_ ?_
 refine lastI 7 none HT_ rfl rfl (by kernel_rfl) (by decide) (fun K hK => ?_)
 refine skip_ (w1 := ?_) (by rfl) rfl ?_ ?_
 rotate_left
 ·go_simp
  rfl
 refine hK.out _ _ ?_
 clear hK K
 -- norm_
 refine done_ (done_of HT_.out (by kernel_rfl)) ?_
 go_wp2_with (((with_reducible refine gate_store (t := 64) (p := 4) (v := .tmp 52) rfl ?_); refine wpRowSt rfl 64 (.tmp 4) (.tmp 52) rfl (w.heap.size + 2) (rcA t 0 o y) rfl rfl 64 _ (blk_drew (blk_far (p := ⟨w.heap.size + 1, 3, none⟩) (blk_far (p := ⟨w.heap.size + 1, 1, none⟩) E4.out hne4 _) hne4 _)) (by kernel_rfl) rfl rfl ?_))
 refine bodyPost_ret (results_ctt rfl _ _ (w.heap.size + 2) 64 (rcA t 0 o y) (0, 0) _ rfl (setRow_heap _ _ _ _ _ _ (blk_drew (blk_far (p := ⟨w.heap.size + 1, 3, none⟩) (blk_far (p := ⟨w.heap.size + 1, 1, none⟩) E4.out hne4 _) hne4 _))) Tryz.underlying64 rfl (by kernel_rfl)) rfl ?_
 exact ⟨rfl, rowBelow (below_drew1 (below_set (below_set HB5.out (Nat.le_succ _)) (Nat.le_succ _))) (by omega) _⟩
theorem rect_cols_no (a b c t l o r : Int) (w : World) (HC : Aside0 (move_Check.f a b c = some 0)) (HP : Aside0 (place_Check.f t l o r = some 0)) (HR : Aside0 (move_rows.f a b c = some false)) (HL : Aside0 (∀ W : World, Calls Tryz.prog 98 #[.agg (spA l r), .agg (edA a b c)] W fun e w' => e = .returned (.agg (spA 0 0)) ∧ Below W.heap.size W w'))  :
  Calls Tryz.prog 73 #[.agg (edA a b c), .agg (rcA t l o r)] w fun e w' => e = .returned (.tuple #[.agg (rcA 0 0 0 0), .bool false, .int .i64 0]) ∧ Below w.heap.size w w' := by
 have HR2 := Aside0.mk HR.out
 go_enter Tryz.func73, Tryz.ntmps73
 go_wp2_with (first
  | (go_at_call 37; (with_reducible refine (move_Check.calls _ _ _ _ _ HC.out).mono ?_); rintro e w1 ⟨rfl, hb⟩; have HB1 := Aside0.mk (below_step (bel3 w _ _ _) hb); have A2 := Aside0.mk (blk_below (newBlk3a w _ _ _) hb); have A3 := Aside0.mk (blk_below (newBlk3b w _ _ _) hb); have A4 := Aside0.mk (blk_below (newBlk3c w _ _ _) hb); clear hb; have hc := fun i => blk_cell A3.out i)
  | (go_at_call 49; (with_reducible refine (place_Check.calls _ _ _ _ _ _ HP.out).mono ?_); rintro e w2 ⟨rfl, hb⟩; have HB2 := Aside0.mk (below_step HB1.out hb); have B2 := Aside0.mk (blk_below A2.out hb); have B3 := Aside0.mk (blk_below A3.out hb); have B4 := Aside0.mk (blk_below A4.out hb); clear hb hc; have hc := fun i => blk_cell B3.out i; have hd := fun (o : Obj) (i : Nat) => blk_cell (blk_alloc B2.out o) i)
  | (go_at_call 43; (with_reducible refine (move_rows.calls _ _ _ _ _ HR.out).mono ?_); clear HR; rintro e w3 ⟨rfl, hb⟩; have HB3 := Aside0.mk (below_step (below_alloc HB2.out _) hb); have C2 := Aside0.mk (blk_below (blk_alloc B2.out _) hb); have C3 := Aside0.mk (blk_below (blk_alloc B3.out _) hb); have C4 := Aside0.mk (blk_below (blk_alloc B4.out _) hb); have C7 := Aside0.mk (blk_below (newBlk w2 _) hb); have hg := blk_lt B4.out; clear hb hc hd; have hc := fun i => blk_cell C3.out i; have hd := fun i => blk_cell C2.out i; have he := fun i => blk_cell C7.out i)
  | (go_at_call 98; (with_reducible refine (HL.out _).mono ?_); rintro e w4 ⟨rfl, hb⟩; have HB4 := Aside0.mk (below_step HB3.out hb); have D2 := Aside0.mk (blk_below (C2.out) hb); have D3 := Aside0.mk (blk_below (C3.out) hb); have D4 := Aside0.mk (blk_below (C4.out) hb); have D7 := Aside0.mk (blk_below (C7.out) hb); clear hb hd he)
  | ((with_reducible refine gate_store (t := 96) (p := 7) (v := .tmp 31) rfl ?_); refine wpRowSt rfl 96 (.tmp 7) (.tmp 31) rfl (w2.heap.size) (spA 0 0) rfl rfl 96 _ (D7.out) (by kernel_rfl) rfl rfl ?_; have hd := fun i => blk_cell (rowOther (spA 0 0) D2.out (g := w2.heap.size) (by omega)) i; have he := fun i => blk_cell (setRow_heap _ _ _ (spA 0 0) _ _ D7.out) i)
  | ((with_reducible refine gate_store (t := 64) (p := 4) (v := .tmp 42) rfl ?_); refine wpRowSt rfl 64 (.tmp 4) (.tmp 42) rfl (w.heap.size + 2) (rcA 0 0 0 0) rfl rfl 64 _ ((rowOther (spA 0 0) D4.out (g := w2.heap.size) (by omega))) (by kernel_rfl) rfl rfl ?_))
 refine bodyPost_ret (results_ctt rfl _ _ (w.heap.size + 2) 64 (rcA 0 0 0 0) (0, 0) _ rfl (setRow_heap _ _ _ _ _ _ (rowOther (spA 0 0) D4.out (g := w2.heap.size) (by omega))) Tryz.underlying64 rfl (by kernel_rfl)) rfl ?_
 exact ⟨rfl, rowBelow (rowBelow HB4.out (show w.heap.size ≤ w2.heap.size by omega) _) (by omega) _⟩
theorem rect_bad (a b c t l o r x y : Int) (w : World) (HC : Aside0 (move_Check.f a b c = some x)) (HP : Aside0 (place_Check.f t l o r = some y)) (h : x = 2 ∨ (x = 0 ∧ y = 2)) :
    Calls Tryz.prog 73 #[.agg (edA a b c), .agg (rcA t l o r)] w fun e w' => e = .returned (.tuple #[.agg (rcA 0 0 0 0), .bool false, .int .i64 2]) ∧ Below w.heap.size w w' := by
  rcases h with rfl | ⟨rfl, rfl⟩
  all_goals
    go_enter Tryz.func73, Tryz.ntmps73
    go_wp2_with (first
      | (go_at_call 37; (with_reducible refine (move_Check.calls _ _ _ _ _ HC.out).mono ?_); rintro e w1 ⟨rfl, hb⟩; have HB1 := Aside0.mk (below_step (bel3 w _ _ _) hb); have A3 := Aside0.mk (blk_below (newBlk3b w _ _ _) hb); have A4 := Aside0.mk (blk_below (newBlk3c w _ _ _) hb); clear hb; have hc := fun i => blk_cell A3.out i)
      | (go_at_call 49; (with_reducible refine (place_Check.calls _ _ _ _ _ _ HP.out).mono ?_); rintro e w2 ⟨rfl, hb⟩; have HB2 := Aside0.mk (below_step HB1.out hb); have B4 := Aside0.mk (blk_below A4.out hb); clear hb hc)
      | ((with_reducible refine gate_store (t := 64) (p := 4) (v := .tmp 16) rfl ?_); refine wpRowSt rfl 64 (.tmp 4) (.tmp 16) rfl (w.heap.size + 2) (rcA 0 0 0 0) rfl rfl 64 _ (by first | exact B4.out | exact A4.out) (by kernel_rfl) rfl rfl ?_))
    first
      | (refine bodyPost_ret (results_ctt rfl _ _ (w.heap.size + 2) 64 (rcA 0 0 0 0) (0, 0) _ rfl (setRow_heap _ _ _ _ _ _ B4.out) Tryz.underlying64 rfl (by kernel_rfl)) rfl ?_
         exact ⟨rfl, rowBelow HB2.out (by omega) _⟩)
      | (refine bodyPost_ret (results_ctt rfl _ _ (w.heap.size + 2) 64 (rcA 0 0 0 0) (0, 0) _ rfl (setRow_heap _ _ _ _ _ _ A4.out) Tryz.underlying64 rfl (by kernel_rfl)) rfl ?_
         exact ⟨rfl, rowBelow HB1.out (by omega) _⟩)
structure Rc where
 t : Int
 l : Int
 o : Int
 r : Int
def rectB (t l o r : Int) : Bool := placeB t l && (placeB o r && (decide (t ≤ o) && decide (l ≤ r)))
theorem placeCheck_B (t l o r : Int) : place_Check.f t l o r = some (if rectB t l o r = true then 0 else 2) := by
 unfold place_Check.f place_Of.f rectB
 rw [place_is_B, place_is_B]
 cases placeB t l with
 | false => rfl
 | true =>
  cases placeB o r with
  | false => rfl
  | true =>
   by_cases h1 : t ≤ o <;> by_cases h2 : l ≤ r <;> simp [h1, h2, mn, mx] <;> omega
def rectS (a b c t l o r : Int) : Rc × Bool × Int :=
  if edB a b c = true ∧ rectB t l o r = true then
    (if rowsB a = true then (if ((leftS a b c t o).1 == 0 && ((leftS a b c t o).2 == 0)) = true then (⟨0, 0, 0, 0⟩, false, 0) else (⟨(leftS a b c t o).1, l, (leftS a b c t o).2, r⟩, true, 0))
     else (if ((leftS a b c l r).1 == 0 && ((leftS a b c l r).2 == 0)) = true then (⟨0, 0, 0, 0⟩, false, 0) else (⟨t, (leftS a b c l r).1, o, (leftS a b c l r).2⟩, true, 0)))
  else (⟨0, 0, 0, 0⟩, false, 2)
theorem rect_calls (a b c t l o r : Int) (w : World) :
  Calls Tryz.prog 73 #[.agg (edA a b c), .agg (rcA t l o r)] w fun e w' => e = .returned (.tuple #[.agg (rcA (rectS a b c t l o r).1.t (rectS a b c t l o r).1.l (rectS a b c t l o r).1.o (rectS a b c t l o r).1.r), .bool (rectS a b c t l o r).2.1, .int .i64 (rectS a b c t l o r).2.2]) ∧ Below w.heap.size w w' := by
 have hc := moveCheck_B a b c
 have hp := placeCheck_B t l o r
 unfold rectS
 by_cases h : edB a b c = true ∧ rectB t l o r = true
 ·rw [if_pos h]
  rw [if_pos h.1] at hc
  rw [if_pos h.2] at hp
  cases hr : rowsB a with
  | true =>
   rw [if_pos rfl]
   cases hx : ((leftS a b c t o).1 == 0 && ((leftS a b c t o).2 == 0)) with
   | true =>
    rw [if_pos rfl]
    have hz := left_calls a b c t o
    rw [Bool.and_eq_true, beq_iff_eq, beq_iff_eq] at hx
    rw [hx.1, hx.2] at hz
    exact rect_rows_no a b c t l o r w ⟨hc⟩ ⟨hp⟩ ⟨by rw [rows_B, hr]⟩ ⟨hz⟩
   | false =>
    rw [if_neg (show ¬(false = true) by simp)]
    have hz := left_calls a b c t o
    generalize leftS a b c t o = z at hx hz ⊢
    obtain ⟨x, y⟩ := z
    cases hx0 : (x == 0) with
    | false => exact rect_rows a b c t l o r _ _ w ⟨hc⟩ ⟨hp⟩ ⟨by rw [rows_B, hr]⟩ ⟨hz⟩ hx0
    | true =>
     rw [beq_iff_eq] at hx0
     subst hx0
     exact rect_rows0 a b c t l o r _ w ⟨hc⟩ ⟨hp⟩ ⟨by rw [rows_B, hr]⟩ ⟨hz⟩ (by simpa using hx)
  | false =>
   rw [if_neg (show ¬(false = true) by simp)]
   cases hx : ((leftS a b c l r).1 == 0 && ((leftS a b c l r).2 == 0)) with
   | true =>
    rw [if_pos rfl]
    have hz := left_calls a b c l r
    rw [Bool.and_eq_true, beq_iff_eq, beq_iff_eq] at hx
    rw [hx.1, hx.2] at hz
    exact rect_cols_no a b c t l o r w ⟨hc⟩ ⟨hp⟩ ⟨by rw [rows_B, hr]⟩ ⟨hz⟩
   | false =>
    rw [if_neg (show ¬(false = true) by simp)]
    have hz := left_calls a b c l r
    generalize leftS a b c l r = z at hx hz ⊢
    obtain ⟨x, y⟩ := z
    cases hx0 : (x == 0) with
    | false => exact rect_cols a b c t l o r _ _ w ⟨hc⟩ ⟨hp⟩ ⟨by rw [rows_B, hr]⟩ ⟨hz⟩ hx0
    | true =>
     rw [beq_iff_eq] at hx0
     subst hx0
     exact rect_cols0 a b c t l o r _ w ⟨hc⟩ ⟨hp⟩ ⟨by rw [rows_B, hr]⟩ ⟨hz⟩ (by simpa using hx)
 ·rw [if_neg h]
  refine rect_bad a b c t l o r _ _ w ⟨hc⟩ ⟨hp⟩ ?_
  by_cases h1 : edB a b c = true
  ·right
   exact ⟨if_pos h1, if_neg (fun h2 => h ⟨h1, h2⟩)⟩
  ·left
   exact if_neg h1
end Go.Proofs.YthnldbclbfpojaaGreatDoor.Pr
end
