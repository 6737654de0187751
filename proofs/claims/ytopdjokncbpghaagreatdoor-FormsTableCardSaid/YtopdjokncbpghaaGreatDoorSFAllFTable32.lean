/-
  Lemmas for the law FAllFTable.
-/
import Derived.Test.YtopdjokncbpghaaGreatDoorSFAllFTable6
import Derived.Test.YtopdjokncbpghaaGreatDoorSFAllFTable31
import Derived.Test.YtopdjokncbpghaaGreatDoorSFAllFTable24
import Derived.Test.YtopdjokncbpghaaGreatDoorSFAllFTable30
set_option maxHeartbeats 8000000
set_option maxRecDepth 100000
set_option linter.unusedVariables false
set_option linter.unusedSimpArgs false
section
namespace Go.Proofs.YtopdjokncbpghaaGreatDoor.Pr
open Go.RowKit Go.Proofs.YtopdjokncbpghaaGreatDoorW.PrintWords Go.Proofs.YtopdjokncbpghaaGreatDoorW.PrintLast Go.Proofs.YtopdjokncbpghaaGreatDoorW.PrintMore
def fR (n : Nd) : Rc := if n.f0 = 3 then ofS n.f2.f0.f0 n.f2.f0.f1 n.f3.f0.f0 n.f3.f0.f1 else ofS n.f2.f0.f0 n.f2.f0.f1 n.f2.f0.f0 n.f2.f0.f1
theorem frect_no (n : Nd) (A : Option Addr) (c : Nat) (hk : ¬n.f0 = 3) (t l o r q : Int) (w : World)
  (HO : Aside0 (place_Of.f n.f2.f0.f0 n.f2.f0.f1 n.f2.f0.f0 n.f2.f0.f1 = some (t, l, o, r, q))) :
  Calls Tryz.prog 40 #[nodeV n A c] w fun e w' => e = .returned (.agg #[.int .i64 t, .int .i64 l, .int .i64 o, .int .i64 r]) ∧ Below w.heap.size w w' := by
 have h2 := fun (i : Nat) => blk_cell (blk_alloc (newBlk w (.cells (nodeA n A c) 44)) (.cells #[.int .i64 0, .int .i64 0, .int .i64 0, .int .i64 0] 58)) i
 have h3 := fun (x : Obj) (i : Nat) => blk_cell (newBlk3a w (.cells (nodeA n A c) 44) (.cells #[.int .i64 0, .int .i64 0, .int .i64 0, .int .i64 0] 58) x) i
 have h4 := fun (x : Array Value) (i : Nat) => blk_cell (newBlk3c w (.cells (nodeA n A c) 44) (.cells #[.int .i64 0, .int .i64 0, .int .i64 0, .int .i64 0] 58) (.cells x 41)) i
 go_enter Tryz.func40, Tryz.ntmps40
 go_wp2_with (first
  | (go_at_call 44; (with_reducible refine (place_Of.calls _ _ _ _ _ _ _ _ _ _ HO.out).mono ?_); rintro e w1 ⟨rfl, hb⟩; have HB1 := Aside0.mk (below_step (bel3 w _ _ _) hb); have B3 := Aside0.mk (blk_below (newBlk3b w _ _ _) hb); have B5 := Aside0.mk (blk_below (newBlk3c w _ _ _) hb); clear hb h2 h3 h4)
  | ((with_reducible refine gate_store (t := 58) (p := 2) (v := .tmp 22) rfl ?_); refine wpRowSt rfl 58 (.tmp 2) (.tmp 22) rfl (w.heap.size + 1) (#[.int .i64 t, .int .i64 l, .int .i64 o, .int .i64 r]) rfl rfl 58 _ (blk_alloc B3.out _) (by kernel_rfl) rfl rfl ?_))
 refine bodyPost_ret (results_cell_row rfl _ _ (w.heap.size + 1) 58 (#[.int .i64 t, .int .i64 l, .int .i64 o, .int .i64 r]) (0, 0) _ rfl (setRow_heap _ _ _ _ _ _ (blk_alloc B3.out _)) Tryz.underlying58 rfl (by kernel_rfl)) rfl ?_
 exact ⟨rfl, rowBelow (below_alloc HB1.out _) (by omega) _⟩
theorem frect_yes (n : Nd) (A : Option Addr) (c : Nat) (hk : n.f0 = 3) (t l o r q : Int) (w : World)
  (HO : Aside0 (place_Of.f n.f2.f0.f0 n.f2.f0.f1 n.f3.f0.f0 n.f3.f0.f1 = some (t, l, o, r, q))) :
  Calls Tryz.prog 40 #[nodeV n A c] w fun e w' => e = .returned (.agg #[.int .i64 t, .int .i64 l, .int .i64 o, .int .i64 r]) ∧ Below w.heap.size w w' := by
 have h2 := fun (i : Nat) => blk_cell (blk_alloc (newBlk w (.cells (nodeA n A c) 44)) (.cells #[.int .i64 0, .int .i64 0, .int .i64 0, .int .i64 0] 58)) i
 have h3 := fun (x : Obj) (i : Nat) => blk_cell (newBlk3a w (.cells (nodeA n A c) 44) (.cells #[.int .i64 0, .int .i64 0, .int .i64 0, .int .i64 0] 58) x) i
 have HX := Aside0.mk (newBlk3c w (.cells (nodeA n A c) 44) (.cells #[.int .i64 0, .int .i64 0, .int .i64 0, .int .i64 0] 58) (.cells #[.int .i64 n.f2.f0.f0, .int .i64 n.f2.f0.f1, .bool n.f2.f1, .bool n.f2.f2] 41))
 have h5 := fun (i : Nat) => blk_cell (rowOther (g := w.heap.size + 2) (#[.int .i64 n.f3.f0.f0, .int .i64 n.f3.f0.f1, .bool n.f3.f1, .bool n.f3.f2]) (newBlk3a w (.cells (nodeA n A c) 44) (.cells #[.int .i64 0, .int .i64 0, .int .i64 0, .int .i64 0] 58) (.cells #[.int .i64 n.f2.f0.f0, .int .i64 n.f2.f0.f1, .bool n.f2.f1, .bool n.f2.f2] 41)) (by omega)) i
 have h6 := fun (i : Nat) => blk_cell (setRow_heap _ _ _ (#[.int .i64 n.f3.f0.f0, .int .i64 n.f3.f0.f1, .bool n.f3.f1, .bool n.f3.f2]) _ _ (newBlk3c w (.cells (nodeA n A c) 44) (.cells #[.int .i64 0, .int .i64 0, .int .i64 0, .int .i64 0] 58) (.cells #[.int .i64 n.f2.f0.f0, .int .i64 n.f2.f0.f1, .bool n.f2.f1, .bool n.f2.f2] 41))) i
 have BE := Aside0.mk (rowBelow (bel3 w (.cells (nodeA n A c) 44) (.cells #[.int .i64 0, .int .i64 0, .int .i64 0, .int .i64 0] 58) (.cells #[.int .i64 n.f2.f0.f0, .int .i64 n.f2.f0.f1, .bool n.f2.f1, .bool n.f2.f2] 41)) (show w.heap.size ≤ w.heap.size + 2 by omega) (#[.int .i64 n.f3.f0.f0, .int .i64 n.f3.f0.f1, .bool n.f3.f1, .bool n.f3.f2]))
 have BR := Aside0.mk (rowOther (g := w.heap.size + 2) (#[.int .i64 n.f3.f0.f0, .int .i64 n.f3.f0.f1, .bool n.f3.f1, .bool n.f3.f2]) (newBlk3b w (.cells (nodeA n A c) 44) (.cells #[.int .i64 0, .int .i64 0, .int .i64 0, .int .i64 0] 58) (.cells #[.int .i64 n.f2.f0.f0, .int .i64 n.f2.f0.f1, .bool n.f2.f1, .bool n.f2.f2] 41)) (by omega))
 go_enter Tryz.func40, Tryz.ntmps40
 go_wp2_with (first
  | ((with_reducible refine gate_store (t := 41) (p := 3) (v := .tmp 12) rfl ?_); refine wpRowSt rfl 41 (.tmp 3) (.tmp 12) rfl (w.heap.size + 2) (#[.int .i64 n.f3.f0.f0, .int .i64 n.f3.f0.f1, .bool n.f3.f1, .bool n.f3.f2]) rfl rfl 41 _ HX.out (by kernel_rfl) rfl rfl ?_)
  | (go_at_call 44; (with_reducible refine (place_Of.calls _ _ _ _ _ _ _ _ _ _ HO.out).mono ?_); rintro e w1 ⟨rfl, hb⟩; have HB1 := Aside0.mk (below_step BE.out hb); have B3 := Aside0.mk (blk_below BR.out hb); clear hb h2 h3 h5 h6)
  | ((with_reducible refine gate_store (t := 58) (p := 2) (v := .tmp 22) rfl ?_); refine wpRowSt rfl 58 (.tmp 2) (.tmp 22) rfl (w.heap.size + 1) (#[.int .i64 t, .int .i64 l, .int .i64 o, .int .i64 r]) rfl rfl 58 _ (blk_alloc B3.out _) (by kernel_rfl) rfl rfl ?_))
 refine bodyPost_ret (results_cell_row rfl _ _ (w.heap.size + 1) 58 (#[.int .i64 t, .int .i64 l, .int .i64 o, .int .i64 r]) (0, 0) _ rfl (setRow_heap _ _ _ _ _ _ (blk_alloc B3.out _)) Tryz.underlying58 rfl (by kernel_rfl)) rfl ?_
 exact ⟨rfl, rowBelow (below_alloc HB1.out _) (by omega) _⟩
theorem frect_calls (n : Nd) (A : Option Addr) (c : Nat) (w : World) :
  Calls Tryz.prog 40 #[nodeV n A c] w fun e w' => e = .returned (.agg (rcA (fR n).t (fR n).l (fR n).o (fR n).r)) ∧ Below w.heap.size w w' := by
 unfold fR rcA
 by_cases hk : n.f0 = 3
 ·simp only [if_pos hk]
  obtain ⟨q, hO⟩ := placeOf_S n.f2.f0.f0 n.f2.f0.f1 n.f3.f0.f0 n.f3.f0.f1
  exact frect_yes n A c hk _ _ _ _ q w ⟨hO⟩
 ·simp only [if_neg hk]
  obtain ⟨q, hO⟩ := placeOf_S n.f2.f0.f0 n.f2.f0.f1 n.f2.f0.f0 n.f2.f0.f1
  exact frect_no n A c hk _ _ _ _ q w ⟨hO⟩
def rgB (n : Nd) : Bool := n.f0 == 2 || n.f0 == 3
theorem ranged_calls (n : Nd) (A : Option Addr) (c : Nat) (w : World) (hK : KidsC w A c n.f5) :
  Calls Tryz.prog 39 #[nodeV n A c] w fun e w' => e = .returned (.bool (rgB n)) ∧ Below w.heap.size w w' := by
 refine forms_ranged.calls n.f0 n.f1.f0 n.f1.f1 n.f1.f2 n.f1.f3 n.f1.f4 n.f2.f0.f0 n.f2.f0.f1 n.f2.f1 n.f2.f2 n.f3.f0.f0 n.f3.f0.f1 n.f3.f1 n.f3.f2 n.f4 A c n.f5 (rgB n) w hK.2 hK.1 ?_
 unfold forms_ranged.f rgB
 by_cases h : n.f0 = 2
 ·rw [if_pos h, h]; rfl
 ·rw [if_neg h]
  simp [h]
end Go.Proofs.YtopdjokncbpghaaGreatDoor.Pr
end
