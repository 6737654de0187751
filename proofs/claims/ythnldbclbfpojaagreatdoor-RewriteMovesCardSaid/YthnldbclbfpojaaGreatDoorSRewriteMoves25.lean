/-
  What the law RewriteMoves leans on, out of the texts that were printed and written for this seat: only what its proof mentions (gathered by a program of the author's).
-/
import Derived.Test.YthnldbclbfpojaaGreatDoorSRewriteMoves23
import Derived.Test.YthnldbclbfpojaaGreatDoorSRewriteMoves11
import Derived.Test.YthnldbclbfpojaaGreatDoorSRewriteMoves10
import Derived.Test.YthnldbclbfpojaaGreatDoorSRewriteMoves13
set_option maxHeartbeats 8000000
set_option maxRecDepth 100000
set_option linter.unusedVariables false
set_option linter.unusedSimpArgs false
section
namespace Go.Proofs.YthnldbclbfpojaaGreatDoor.Pr
open Go.RowKit Go.Proofs.YthnldbclbfpojaaGreatDoorW.PrintWords Go.Proofs.YthnldbclbfpojaaGreatDoorW.PrintLast Go.Proofs.YthnldbclbfpojaaGreatDoorW.PrintMore
theorem newBlk3a (w : World) (o p q : Obj) : (((w.alloc o).alloc p).alloc q).heap[w.heap.size]? = some o := blk_alloc (blk_alloc (newBlk w o) p) q
theorem newBlk3b (w : World) (o p q : Obj) : (((w.alloc o).alloc p).alloc q).heap[w.heap.size + 1]? = some p := blk_alloc (newBlk2 w o p) q
theorem newBlk3c (w : World) (o p q : Obj) : (((w.alloc o).alloc p).alloc q).heap[w.heap.size + 2]? = some q := by
 have h := newBlk2 (w.alloc o) p q
 have e : (w.alloc o).heap.size = w.heap.size + 1 := by simp
 rwa [e] at h
theorem bel3 (w : World) (o p q : Obj) : Below w.heap.size w (((w.alloc o).alloc p).alloc q) := below_alloc (bel2 w o p) q
theorem nodeV_withK (n : Nd) (l : List Nd) (A : Option Addr) (c : Nat) (h : l.length = n.f5.length) : nodeV (withK n l) A c = nodeV n A c := by
 unfold nodeV nodeA withK
 simp only [h]
def way1 (X : Ce → Ce) (b : Ce → Bool) (c : Ce) : Option Ce := if b c = true then some (X c) else none
def way2 (Y Z : Ce → Ce → Ce) (b : Ce → Ce → Bool) (a c : Ce) : Option (Ce × Ce) := if b a c = true then some (Y a c, Z a c) else none
abbrev wayV1 (P Q F : Value) : Value := .agg #[.func (.func 55) #[] #[P, Q], .func (.func 57) #[] #[F]]
def CellLaw1 (P Q : Value) (X : Ce → Ce) (b : Ce → Bool) (w : World) : Prop := ∀ (c : Ce) (W : World), Below w.heap.size w W → Calls Tryz.prog 55 #[.agg (cellA c), P, Q] W fun e w' => e = .returned (.tuple #[.agg (cellA (X c)), .bool (b c)]) ∧ Below W.heap.size W w'
def SpanLaw1 (F : Value) (X Y : Ce → Ce → Ce) (b : Ce → Ce → Bool) (w : World) : Prop := ∀ (a c : Ce) (W : World), Below w.heap.size w W → Calls Tryz.prog 57 #[.agg (cellA a), .agg (cellA c), F] W fun e w' => e = .returned (.tuple #[.agg (cellA (X a c)), .agg (cellA (Y a c)), .bool (b a c)]) ∧ Below W.heap.size W w'
theorem CellLaw1.below {P Q : Value} {X : Ce → Ce} {b : Ce → Bool} {w w1 : World} (h : CellLaw1 P Q X b w) (hb : Below w.heap.size w w1) : CellLaw1 P Q X b w1 := fun c W hW => h c W (below_step hb hW)
theorem SpanLaw1.below {F : Value} {X Y : Ce → Ce → Ce} {b : Ce → Ce → Bool} {w w1 : World} (h : SpanLaw1 F X Y b w) (hb : Below w.heap.size w w1) : SpanLaw1 F X Y b w1 := fun a c W hW => h a c W (below_step hb hW)
theorem node1_cell_some (P Q F : Value) (f1 : S26) (f2 f3 x : Ce) (f4 : ByteArray) (A : Option Addr) (c : Nat) (w : World)
  (hC : ∀ (W : World), Below w.heap.size w W → Calls Tryz.prog 55 #[.agg (cellA f2), P, Q] W fun e w' => e = .returned (.tuple #[.agg (cellA x), .bool true]) ∧ Below W.heap.size W w') :
  Calls Tryz.prog 33 #[wayV1 P Q F, nodeV ⟨2, f1, f2, f3, f4, []⟩ A c] w (NodeOut ⟨2, f1, x, f3, f4, []⟩ w) := by
 have HC := Aside0.mk hC
 clear hC
 have hne : w.heap.size + 2 ≠ w.heap.size + 1 := by omega
 go_enter Tryz.func33, Tryz.ntmps33
 go_wp2_with (first
  | (go_at_call 55; (with_reducible refine (HC.out _ (bel3 w _ _ _)).mono ?_); rintro e w1 ⟨rfl, hb⟩; have HB1 := Aside0.mk (below_step (bel3 w _ _ _) hb); have B3 := Aside0.mk (blk_below (newBlk3b w (.cells #[.func (.func 55) #[] #[P, Q], .func (.func 57) #[] #[F]] 76) (.cells (nodeA ⟨2, f1, f2, f3, f4, []⟩ A c) 33) (.cells (nodeA zeroN none 0) 33)) hb); have B4 := Aside0.mk (blk_below (newBlk3c w (.cells #[.func (.func 55) #[] #[P, Q], .func (.func 57) #[] #[F]] 76) (.cells (nodeA ⟨2, f1, f2, f3, f4, []⟩ A c) 33) (.cells (nodeA zeroN none 0) 33)) hb); have hc := fun i => blk_cell B3.out i; have hf := fun i => blk_frozen B3.out i; clear hb))
 refine wp_loop_rounds 1 ?_
 rw [rounds_succ]
 go_wp2_with ((with_reducible refine gate_store (t := 33) (p := 4) (v := .tmp 56) rfl ?_); refine wpRowSt rfl 33 (.tmp 4) (.tmp 56) rfl (w.heap.size + 2) (nodeA ⟨2, f1, x, f3, f4, []⟩ none 0) rfl rfl 33 _ (blk_far (p := ⟨w.heap.size + 1, 15, none⟩) (blk_far (p := ⟨w.heap.size + 1, 9, none⟩) (blk_far (p := ⟨w.heap.size + 1, 8, none⟩) (blk_far (p := ⟨w.heap.size + 1, 7, none⟩) (blk_far (p := ⟨w.heap.size + 1, 6, none⟩) B4.out hne _) hne _) hne _) hne _) hne _) (by kernel_rfl) rfl rfl ?_)
 refine bodyPost_ret (results_cell_row rfl _ _ (w.heap.size + 2) 33 (nodeA ⟨2, f1, x, f3, f4, []⟩ none 0) (0, 0) _ rfl (setRow_heap _ _ _ _ _ _ (blk_far (p := ⟨w.heap.size + 1, 15, none⟩) (blk_far (p := ⟨w.heap.size + 1, 9, none⟩) (blk_far (p := ⟨w.heap.size + 1, 8, none⟩) (blk_far (p := ⟨w.heap.size + 1, 7, none⟩) (blk_far (p := ⟨w.heap.size + 1, 6, none⟩) B4.out hne _) hne _) hne _) hne _) hne _)) Tryz.underlying33 rfl (by kernel_rfl)) rfl ?_
 exact ⟨none, 0, rfl, kidsF_nil _ _ _ _, rowBelow (below_set (below_set (below_set (below_set (below_set HB1.out (Nat.le_succ _)) (Nat.le_succ _)) (Nat.le_succ _)) (Nat.le_succ _)) (Nat.le_succ _)) (by omega) _⟩
theorem node1_cell_none (P Q F : Value) (f1 : S26) (f2 f3 x : Ce) (f4 : ByteArray) (A : Option Addr) (c : Nat) (w : World)
  (hC : ∀ (W : World), Below w.heap.size w W → Calls Tryz.prog 55 #[.agg (cellA f2), P, Q] W fun e w' => e = .returned (.tuple #[.agg (cellA x), .bool false]) ∧ Below W.heap.size W w') :
  Calls Tryz.prog 33 #[wayV1 P Q F, nodeV ⟨2, f1, f2, f3, f4, []⟩ A c] w (NodeOut lostN w) := by
 have HC := Aside0.mk hC
 clear hC
 have hne : w.heap.size + 2 ≠ w.heap.size + 1 := by omega
 go_enter Tryz.func33, Tryz.ntmps33
 go_wp2_with (first
  | (go_at_call 55; (with_reducible refine (HC.out _ (bel3 w _ _ _)).mono ?_); rintro e w1 ⟨rfl, hb⟩; have HB1 := Aside0.mk (below_step (bel3 w _ _ _) hb); have B3 := Aside0.mk (blk_below (newBlk3b w (.cells #[.func (.func 55) #[] #[P, Q], .func (.func 57) #[] #[F]] 76) (.cells (nodeA ⟨2, f1, f2, f3, f4, []⟩ A c) 33) (.cells (nodeA zeroN none 0) 33)) hb); have B4 := Aside0.mk (blk_below (newBlk3c w (.cells #[.func (.func 55) #[] #[P, Q], .func (.func 57) #[] #[F]] 76) (.cells (nodeA ⟨2, f1, f2, f3, f4, []⟩ A c) 33) (.cells (nodeA zeroN none 0) 33)) hb); have hc := fun i => blk_cell B3.out i; have hf := fun i => blk_frozen B3.out i; clear hb)
  | (go_at_call 58; (with_reducible refine (lost_calls _).mono ?_); rintro e w3 ⟨rfl, hb⟩; have HB3 := Aside0.mk (below_step (below_set (below_set (below_set (below_set HB1.out (Nat.le_succ _)) (Nat.le_succ _)) (Nat.le_succ _)) (Nat.le_succ _)) hb); have D4 := Aside0.mk (blk_below (blk_far (p := ⟨w.heap.size + 1, 9, none⟩) (blk_far (p := ⟨w.heap.size + 1, 8, none⟩) (blk_far (p := ⟨w.heap.size + 1, 7, none⟩) (blk_far (p := ⟨w.heap.size + 1, 6, none⟩) B4.out hne _) hne _) hne _) hne _) hb); clear hb)
  | ((with_reducible refine gate_store (t := 33) (p := 4) (v := .tmp 39) rfl ?_); refine wpRowSt rfl 33 (.tmp 4) (.tmp 39) rfl (w.heap.size + 2) (nodeA lostN none 0) rfl rfl 33 _ D4.out (by kernel_rfl) rfl rfl ?_))
 refine bodyPost_ret (results_cell_row rfl _ _ (w.heap.size + 2) 33 (nodeA lostN none 0) (0, 0) _ rfl (setRow_heap _ _ _ _ _ _ D4.out) Tryz.underlying33 rfl (by kernel_rfl)) rfl ?_
 exact ⟨none, 0, rfl, kidsF_nil _ _ _ _, rowBelow HB3.out (by omega) _⟩
theorem node1_span_some (P Q F : Value) (f1 : S26) (f2 f3 x y : Ce) (f4 : ByteArray) (A : Option Addr) (c : Nat) (w : World)
  (hC : ∀ (W : World), Below w.heap.size w W → Calls Tryz.prog 57 #[.agg (cellA f2), .agg (cellA f3), F] W fun e w' => e = .returned (.tuple #[.agg (cellA x), .agg (cellA y), .bool true]) ∧ Below W.heap.size W w') :
  Calls Tryz.prog 33 #[wayV1 P Q F, nodeV ⟨3, f1, f2, f3, f4, []⟩ A c] w (NodeOut ⟨3, f1, x, y, f4, []⟩ w) := by
 have HC := Aside0.mk hC
 clear hC
 have hne : w.heap.size + 2 ≠ w.heap.size + 1 := by omega
 go_enter Tryz.func33, Tryz.ntmps33
 go_wp2_with (first
  | (go_at_call 57; (with_reducible refine (HC.out _ (bel3 w _ _ _)).mono ?_); rintro e w1 ⟨rfl, hb⟩; have HB1 := Aside0.mk (below_step (bel3 w _ _ _) hb); have B3 := Aside0.mk (blk_below (newBlk3b w (.cells #[.func (.func 55) #[] #[P, Q], .func (.func 57) #[] #[F]] 76) (.cells (nodeA ⟨3, f1, f2, f3, f4, []⟩ A c) 33) (.cells (nodeA zeroN none 0) 33)) hb); have B4 := Aside0.mk (blk_below (newBlk3c w (.cells #[.func (.func 55) #[] #[P, Q], .func (.func 57) #[] #[F]] 76) (.cells (nodeA ⟨3, f1, f2, f3, f4, []⟩ A c) 33) (.cells (nodeA zeroN none 0) 33)) hb); have hc := fun i => blk_cell B3.out i; have hf := fun i => blk_frozen B3.out i; clear hb))
 refine wp_loop_rounds 1 ?_
 rw [rounds_succ]
 go_wp2_with ((with_reducible refine gate_store (t := 33) (p := 4) (v := .tmp 56) rfl ?_); refine wpRowSt rfl 33 (.tmp 4) (.tmp 56) rfl (w.heap.size + 2) (nodeA ⟨3, f1, x, y, f4, []⟩ none 0) rfl rfl 33 _ (blk_far (p := ⟨w.heap.size + 1, 15, none⟩) (blk_far (p := ⟨w.heap.size + 1, 13, none⟩) (blk_far (p := ⟨w.heap.size + 1, 12, none⟩) (blk_far (p := ⟨w.heap.size + 1, 11, none⟩) (blk_far (p := ⟨w.heap.size + 1, 10, none⟩) (blk_far (p := ⟨w.heap.size + 1, 9, none⟩) (blk_far (p := ⟨w.heap.size + 1, 8, none⟩) (blk_far (p := ⟨w.heap.size + 1, 7, none⟩) (blk_far (p := ⟨w.heap.size + 1, 6, none⟩) B4.out hne _) hne _) hne _) hne _) hne _) hne _) hne _) hne _) hne _) (by kernel_rfl) rfl rfl ?_)
 refine bodyPost_ret (results_cell_row rfl _ _ (w.heap.size + 2) 33 (nodeA ⟨3, f1, x, y, f4, []⟩ none 0) (0, 0) _ rfl (setRow_heap _ _ _ _ _ _ (blk_far (p := ⟨w.heap.size + 1, 15, none⟩) (blk_far (p := ⟨w.heap.size + 1, 13, none⟩) (blk_far (p := ⟨w.heap.size + 1, 12, none⟩) (blk_far (p := ⟨w.heap.size + 1, 11, none⟩) (blk_far (p := ⟨w.heap.size + 1, 10, none⟩) (blk_far (p := ⟨w.heap.size + 1, 9, none⟩) (blk_far (p := ⟨w.heap.size + 1, 8, none⟩) (blk_far (p := ⟨w.heap.size + 1, 7, none⟩) (blk_far (p := ⟨w.heap.size + 1, 6, none⟩) B4.out hne _) hne _) hne _) hne _) hne _) hne _) hne _) hne _) hne _)) Tryz.underlying33 rfl (by kernel_rfl)) rfl ?_
 exact ⟨none, 0, rfl, kidsF_nil _ _ _ _, rowBelow (below_set (below_set (below_set (below_set (below_set (below_set (below_set (below_set (below_set HB1.out (Nat.le_succ _)) (Nat.le_succ _)) (Nat.le_succ _)) (Nat.le_succ _)) (Nat.le_succ _)) (Nat.le_succ _)) (Nat.le_succ _)) (Nat.le_succ _)) (Nat.le_succ _)) (by omega) _⟩
theorem node1_span_none (P Q F : Value) (f1 : S26) (f2 f3 x y : Ce) (f4 : ByteArray) (A : Option Addr) (c : Nat) (w : World)
  (hC : ∀ (W : World), Below w.heap.size w W → Calls Tryz.prog 57 #[.agg (cellA f2), .agg (cellA f3), F] W fun e w' => e = .returned (.tuple #[.agg (cellA x), .agg (cellA y), .bool false]) ∧ Below W.heap.size W w') :
  Calls Tryz.prog 33 #[wayV1 P Q F, nodeV ⟨3, f1, f2, f3, f4, []⟩ A c] w (NodeOut lostN w) := by
 have HC := Aside0.mk hC
 clear hC
 have hne : w.heap.size + 2 ≠ w.heap.size + 1 := by omega
 go_enter Tryz.func33, Tryz.ntmps33
 go_wp2_with (first
  | (go_at_call 57; (with_reducible refine (HC.out _ (bel3 w _ _ _)).mono ?_); rintro e w1 ⟨rfl, hb⟩; have HB1 := Aside0.mk (below_step (bel3 w _ _ _) hb); have B3 := Aside0.mk (blk_below (newBlk3b w (.cells #[.func (.func 55) #[] #[P, Q], .func (.func 57) #[] #[F]] 76) (.cells (nodeA ⟨3, f1, f2, f3, f4, []⟩ A c) 33) (.cells (nodeA zeroN none 0) 33)) hb); have B4 := Aside0.mk (blk_below (newBlk3c w (.cells #[.func (.func 55) #[] #[P, Q], .func (.func 57) #[] #[F]] 76) (.cells (nodeA ⟨3, f1, f2, f3, f4, []⟩ A c) 33) (.cells (nodeA zeroN none 0) 33)) hb); have hc := fun i => blk_cell B3.out i; have hf := fun i => blk_frozen B3.out i; clear hb)
  | (go_at_call 58; (with_reducible refine (lost_calls _).mono ?_); rintro e w3 ⟨rfl, hb⟩; have HB3 := Aside0.mk (below_step (below_set (below_set (below_set (below_set (below_set (below_set (below_set (below_set HB1.out (Nat.le_succ _)) (Nat.le_succ _)) (Nat.le_succ _)) (Nat.le_succ _)) (Nat.le_succ _)) (Nat.le_succ _)) (Nat.le_succ _)) (Nat.le_succ _)) hb); have D4 := Aside0.mk (blk_below (blk_far (p := ⟨w.heap.size + 1, 13, none⟩) (blk_far (p := ⟨w.heap.size + 1, 12, none⟩) (blk_far (p := ⟨w.heap.size + 1, 11, none⟩) (blk_far (p := ⟨w.heap.size + 1, 10, none⟩) (blk_far (p := ⟨w.heap.size + 1, 9, none⟩) (blk_far (p := ⟨w.heap.size + 1, 8, none⟩) (blk_far (p := ⟨w.heap.size + 1, 7, none⟩) (blk_far (p := ⟨w.heap.size + 1, 6, none⟩) B4.out hne _) hne _) hne _) hne _) hne _) hne _) hne _) hne _) hb); clear hb)
  | ((with_reducible refine gate_store (t := 33) (p := 4) (v := .tmp 39) rfl ?_); refine wpRowSt rfl 33 (.tmp 4) (.tmp 39) rfl (w.heap.size + 2) (nodeA lostN none 0) rfl rfl 33 _ D4.out (by kernel_rfl) rfl rfl ?_))
 refine bodyPost_ret (results_cell_row rfl _ _ (w.heap.size + 2) 33 (nodeA lostN none 0) (0, 0) _ rfl (setRow_heap _ _ _ _ _ _ D4.out) Tryz.underlying33 rfl (by kernel_rfl)) rfl ?_
 exact ⟨none, 0, rfl, kidsF_nil _ _ _ _, rowBelow HB3.out (by omega) _⟩
theorem node1_calls (P Q F : Value) (X : Ce → Ce) (b : Ce → Bool) (Y Z : Ce → Ce → Ce) (b2 : Ce → Ce → Bool) (d : Nat) : ∀ (n : Nd) (A : Option Addr) (c : Nat) (w : World) (hd : szN n < d) (hK : KidsC w A c n.f5) (hS : allS leafB n = true)
  (hC : CellLaw1 P Q X b w) (hD : SpanLaw1 F Y Z b2 w),
  Calls Tryz.prog 33 #[wayV1 P Q F, nodeV n A c] w (NodeOut (wayS (way1 X b) (way2 Y Z b2) n) w) := by
 induction d with
 | zero => intro n A c w hd; omega
 | succ d ih =>
 intro n A c w hd hK hS hC hD
 by_cases h2 : n.f0 = 2
 ·have hl0 := leaf_nil (allS_kid hS).1 (Or.inl h2)
  rw [wayS_eq, if_pos h2, hl0]
  obtain ⟨f0, f1, f2, f3, f4, l⟩ := n
  simp only at h2 hl0
  subst h2
  subst hl0
  cases hq : b f2 with
  | true =>
   rw [show way1 X b f2 = some (X f2) from by unfold way1; rw [if_pos hq]]
   exact node1_cell_some P Q F f1 f2 f3 (X f2) f4 A c w (fun W hW => by have := hC f2 W hW; rwa [hq] at this)
  | false =>
   rw [show way1 X b f2 = none from by unfold way1; rw [if_neg (by simp [hq])]]
   exact node1_cell_none P Q F f1 f2 f3 (X f2) f4 A c w (fun W hW => by have := hC f2 W hW; rwa [hq] at this)
 by_cases h3 : n.f0 = 3
 ·have hl0 := leaf_nil (allS_kid hS).1 (Or.inr h3)
  rw [wayS_eq, if_neg h2, if_pos h3, hl0]
  obtain ⟨f0, f1, f2, f3, f4, l⟩ := n
  simp only at h3 hl0
  subst h3
  subst hl0
  cases hq : b2 f2 f3 with
  | true =>
   rw [show way2 Y Z b2 f2 f3 = some (Y f2 f3, Z f2 f3) from by unfold way2; rw [if_pos hq]]
   exact node1_span_some P Q F f1 f2 f3 (Y f2 f3) (Z f2 f3) f4 A c w (fun W hW => by have := hD f2 f3 W hW; rwa [hq] at this)
  | false =>
   rw [show way2 Y Z b2 f2 f3 = none from by unfold way2; rw [if_neg (by simp [hq])]]
   exact node1_span_none P Q F f1 f2 f3 (Y f2 f3) (Z f2 f3) f4 A c w (fun W hW => by have := hD f2 f3 W hW; rwa [hq] at this)
 ·obtain ⟨hlc, hCC⟩ := hK
  have hmax := hCC.2.1
  have HC := Aside0.mk hCC
  have HD := Aside0.mk hd
  have HS := Aside0.mk (allS_kid hS)
  have hfew : n.f5.length ≤ 4096 := by have := HS.out.1; simp only [leafB, Bool.and_eq_true, decide_eq_true_eq] at this; exact this.1
  have HI := Aside0.mk fun (x : Nd) (A : Option Addr) (c : Nat) (W : World) (hm : x ∈ n.f5) (hW : Below w.heap.size w W) (hx : KidsC W A c x.f5) => ih x A c W (by have := kid_lt hm; have := HD.out; omega) hx (HS.out.2 _ hm) (hC.below hW) (hD.below hW)
  clear hCC ih hd hS HS HD hC hD
  have HX := Aside0.mk (show wayS (way1 X b) (way2 Y Z b2) n = withK n (n.f5.map (wayS (way1 X b) (way2 Y Z b2))) by rw [wayS_eq, if_neg h2, if_neg h3])
  generalize hG : wayS (way1 X b) (way2 Y Z b2) = g at HX HI ⊢
  generalize g n = x at HX ⊢
  clear hG
  have hb2 : (n.f0 == 2) = false := by simp [h2]
  have hb3 : (n.f0 == 3) = false := by simp [h3]
  go_enter Tryz.func33, Tryz.ntmps33
  go_wp2
  go_loopw [6, 43] (fun v i wr => ∃ (q : Nat), q ≤ n.f5.length ∧ i = .int .i64 q ∧ Aside0 (Kd.N k33 33 wr w.heap.size (fun z => w.heap.size + 3 ≤ z) v ((n.f5.take q).map g)) ∧ Aside0 (w.heap.size + 3 ≤ wr.heap.size) ∧ Aside0 (Below w.heap.size w wr) ∧ Aside0 (wr.heap[w.heap.size]? = some (.cells #[.func (.func 55) #[] #[P, Q], .func (.func 57) #[] #[F]] 76 (0, 0))) ∧ Aside0 (wr.heap[w.heap.size + 1]? = some (.cells (nodeA n A c) 33 (0, 0))) ∧ Aside0 (wr.heap[w.heap.size + 2]? = some (.cells (nodeA zeroN none 0) 33 (0, 0)))) (fun _ i _ => n.f5.length - (intOf i).toNat)
  case atStart => exact ⟨0, by omega, rfl, ⟨Kd.N_nil _ _ _ _ _⟩, ⟨by simp⟩, ⟨bel3 w _ _ _⟩, ⟨newBlk3a w _ _ _⟩, ⟨newBlk3b w _ _ _⟩, ⟨newBlk3c w _ _ _⟩⟩
  case round =>
   obtain ⟨q, hk, rfl, HN, HZ, HB, HW, HBk, HO⟩ := hrel
   by_cases hkl : q < n.f5.length
   ·obtain ⟨ad, A', c', e, hK', g0, g1, g2, g3, g4, g5, g6, g7, g8, g9, g10, g11, g12, g13, g14, g15⟩ := at_kid (Kd.C_below HC.out HB.out) q hkl
    subst e
    have HK' := Aside0.mk hK'
    clear hK'
    have HM := Aside0.mk (List.getElem_mem hkl)
    have HT := Aside0.mk (show (n.f5.take (q + 1)).map g = (n.f5.take q).map g ++ [g n.f5[q]] by rw [List.take_succ_eq_append_getElem hkl, List.map_append]; rfl)
    have hw := fun (o : Obj) (i : Nat) => blk_cell (blk_alloc HW.out o) i
    go_wp2_with (first
     | (go_at_call 33; (with_reducible refine (HI.out n.f5[q] A' c' _ HM.out (below_alloc HB.out _) (HK'.out.below (bel1 wr _))).mono ?_); rintro e w3 ⟨A2, c2, rfl, hF, hb⟩; have HB3 := Aside0.mk (below_step (bel1 wr _) hb); have HF := Aside0.mk (hF.lower (b' := wr.heap.size) (by simp)); clear hb hF)
     | (at_builtin; refine Kd.N_append k33 (w0 := w) w.heap.size rfl (.tmp 47) (.tmp 51) 31 33 (.agg #[(.int .i64 0), (.int .i64 0), (.int .i64 0), (.string ⟨#[]⟩), (.bool false), (.int .i64 0), (.int .i64 0), (.int .i64 0), (.bool false), (.bool false), (.int .i64 0), (.int .i64 0), (.bool false), (.bool false), (.string ⟨#[]⟩), (.slice none 0 0)]) 144 rfl Tryz.underlying31 info33 rfl (by decide) (by omega) _ ((n.f5.take q).map g) (g n.f5[q]) (nodeA (g n.f5[q]) A2 c2).toList (fun z => w.heap.size + 3 ≤ z) (fun z => wr.heap.size ≤ z) rfl rfl (kid_FK _ HF.out) ?aK ?aF (Kd.N_below HN.out HB3.out) (below_step HB.out HB3.out) ?aS ?aL ?_; (case aK => exact fun z hz => ⟨Nat.le_trans HZ.out hz, fun he => by have := Kd.N_lt HN.out _ he.symm; omega⟩); (case aF => exact fun z hz => by have := HZ.out; have := HB3.out.size; omega); (case aS => exact (below_size (below_step HB.out HB3.out))); (case aL => rw [List.length_map, List.length_take]; omega); intro v1 w4 ho hb2 hg hat; have HN2 := Aside0.mk ho; have HB2 := Aside0.mk hb2; have HG2 := Aside0.mk hg; clear ho hb2 hg hat))
    have h2' := blk_grown (blk_below HO.out HB3.out) HG2.out (fun he => by have := HN.out.1 _ he.symm; omega)
    refine ⟨⟨q + 1, by omega, by go_num, ⟨by rw [HT.out]; exact HN2.out⟩, ⟨by have := blk_lt h2'; omega⟩, HB2, ⟨blk_grown (blk_below HW.out HB3.out) HG2.out (fun he => by have := HN.out.1 _ he.symm; omega)⟩, ⟨blk_grown (blk_below HBk.out HB3.out) HG2.out (fun he => by have := HN.out.1 _ he.symm; omega)⟩, ⟨h2'⟩⟩, ?_⟩
    simp [intOf]; omega
   ·have HN' := Aside0.mk HN.out
    rw [List.take_of_length_le (by omega)] at HN'
    obtain ⟨A2, c2, rfl⟩ := Kd.N_slice HN'.out
    clear HN HC HI HW
    have hc := fun i => blk_cell HBk.out i
    have hf := fun i => blk_frozen HBk.out i
    have hne : w.heap.size + 2 ≠ w.heap.size + 1 := by omega
    go_wp2_with ((with_reducible refine gate_store (t := 33) (p := 4) (v := .tmp 56) rfl ?_); refine wpRowSt rfl 33 (.tmp 4) (.tmp 56) rfl (w.heap.size + 2) (nodeA n A2 c2) rfl rfl 33 _ (blk_far (p := ⟨w.heap.size + 1, 15, none⟩) HO.out hne _) (by kernel_rfl) rfl rfl ?_)
    refine bodyPost_ret (results_cell_row rfl _ _ (w.heap.size + 2) 33 (nodeA n A2 c2) (0, 0) _ rfl (setRow_heap _ _ _ _ _ _ (blk_far (p := ⟨w.heap.size + 1, 15, none⟩) HO.out hne _)) Tryz.underlying33 rfl (by kernel_rfl)) rfl ?_
    rw [HX.out]
    exact ⟨A2, c2, by rw [nodeV_withK n _ A2 c2 (List.length_map ..)], ⟨(Kd.N_reads' HN'.out).2.1, Kd.F_mono (Kd.F_step (Kd.N_F HN'.out) (fun z hz _ => (setRow_other _ _ z _ (by omega)).trans (Below.heap_setCell wr ⟨w.heap.size + 1, 15, none⟩ _ z (by show z ≠ w.heap.size + 1; omega)))) (fun z hz => by omega)⟩, rowBelow (below_set HB.out (Nat.le_succ _)) (by omega) _⟩
theorem put_at {cs : Array Value} {j : Nat} {u v : Value} (h : cs[j]? = some u) : (cs.setIfInBounds j v)[j]? = some v := by
 have hj : j < cs.size := by
  rcases Nat.lt_or_ge j cs.size with hj | hj
  ·exact hj
  ·rw [Array.getElem?_eq_none hj] at h; cases h
 simp [Array.getElem?_setIfInBounds, hj]
theorem put_same {cs : Array Value} {j : Nat} {v : Value} (h : cs[j]? = some v) : cs.setIfInBounds j v = cs := by
 apply Array.ext_getElem?
 intro i
 rw [Array.getElem?_setIfInBounds]
 by_cases e : j = i
 ·subst e
  rw [if_pos rfl]
  split
  ·exact h.symm
  ·rename_i hn
   rw [Array.getElem?_eq_none (by omega)]
 ·rw [if_neg e]
theorem below_put {w W : World} (h : Below w.heap.size w W) {g j : Nat} {v : Value} {cs : Array Value} {t : TypeId} (H : w.heap[g]? = some (.cells cs t (0, 0))) : Below w.heap.size (w.setCell ⟨g, j, none⟩ v) (W.setCell ⟨g, j, none⟩ v) := by
 have h1 : Below w.heap.size w W := h
 have z1 : (w.setCell ⟨g, j, none⟩ v).heap.size = w.heap.size := by simp
 have z2 : (W.setCell ⟨g, j, none⟩ v).heap.size = W.heap.size := by simp
 have a1 := Below.setCell (Below.refl 0 w) (p := ⟨g, j, none⟩) (Nat.zero_le _) v
 have a2 := Below.setCell (Below.refl 0 W) (p := ⟨g, j, none⟩) (Nat.zero_le _) v
 refine ⟨(a2.os.trans h.os).trans a1.os.symm, (a2.tape.trans h.tape).trans a1.tape.symm, (a2.output.trans h.output).trans a1.output.symm, by rw [z1, z2]; exact h.size, fun k hk => ?_⟩
 by_cases e : k = g
 ·subst e
  exact (blk_put (blk_below H h) j v rfl).trans (blk_put H j v rfl).symm
 ·exact (Below.heap_setCell W ⟨g, j, none⟩ v k e).trans ((h.block k hk).trans (Below.heap_setCell w ⟨g, j, none⟩ v k e).symm)
theorem below_same {w W : World} (h : Below w.heap.size w W) {g j : Nat} {v : Value} {cs : Array Value} {t : TypeId} (H : w.heap[g]? = some (.cells cs t (0, 0))) (hv : cs[j]? = some v) : Below w.heap.size (w.setCell ⟨g, j, none⟩ v) W := by
 have z1 : (w.setCell ⟨g, j, none⟩ v).heap.size = w.heap.size := by simp
 have a1 := Below.setCell (Below.refl 0 w) (p := ⟨g, j, none⟩) (Nat.zero_le _) v
 refine ⟨h.os.trans a1.os.symm, h.tape.trans a1.tape.symm, h.output.trans a1.output.symm, by rw [z1]; exact h.size, fun k hk => ?_⟩
 by_cases e : k = g
 ·subst e
  have := blk_put H j v (cs' := cs.setIfInBounds j v) rfl
  rw [put_same hv] at this
  exact (blk_below H h).trans this.symm
 ·exact (h.block k hk).trans (Below.heap_setCell w ⟨g, j, none⟩ v k e).symm
theorem below_stepP {w W W1 : World} {a : Addr} {v : Value} (h : Below w.heap.size (w.setCell a v) W) (hb : Below W.heap.size W W1) : Below w.heap.size (w.setCell a v) W1 := by
 have z : (w.setCell a v).heap.size = w.heap.size := by simp
 exact h.trans (hb.mono (by have := h.size; rw [z] at this; exact this))
theorem put_below {w W : World} {a : Addr} {v : Value} (h : Below w.heap.size (w.setCell a v) W) : Below (w.setCell a v).heap.size (w.setCell a v) W := by
 have z : (w.setCell a v).heap.size = w.heap.size := by simp
 rwa [z]
def moveStep.T4 : Bool × List (List Nat × List Nat) := (true, [([], []), ([0], [0]), ([1], [1]), ([], []), ([3], [3]), ([2, 4], [2, 4]), ([5], [5])])
def moveStep.B4 : List Nat := [0, 1, 3, 0, 8, 31, 63]
theorem moveStep.tab4 : rtab .any (opsOf Tryz.f44 4) = moveStep.T4 := by kernel_rfl
theorem moveStep.bits4 : waitsOk moveStep.T4.2 moveStep.B4 = true := by kernel_rfl
def moveStep.T6 : Bool × List (List Nat × List Nat) := (true, [([], []), ([0], [0]), ([1], [1]), ([], []), ([3], [3]), ([2, 4], [2, 4]), ([0, 0, 1, 2, 3, 4, 5], [0]), ([6, 5, 0, 1, 2, 3, 4, 5], [5, 6])])
def moveStep.B6 : List Nat := [0, 1, 3, 0, 8, 31, 63, 127]
theorem moveStep.tab6 : rtab .any (opsOf Tryz.f44 6) = moveStep.T6 := by kernel_rfl
theorem moveStep.bits6 : waitsOk moveStep.T6.2 moveStep.B6 = true := by kernel_rfl
def moveStep.T7 : Bool × List (List Nat × List Nat) := (true, [([], []), ([0], [0]), ([1], [1]), ([], []), ([3], [3]), ([2, 4], [2, 4])])
def moveStep.B7 : List Nat := [0, 1, 3, 0, 8, 31]
theorem moveStep.tab7 : rtab .any (opsOf Tryz.f44 7) = moveStep.T7 := by kernel_rfl
theorem moveStep.bits7 : waitsOk moveStep.T7.2 moveStep.B7 = true := by kernel_rfl
def moveStep.T1 : Bool × List (List Nat × List Nat) := (true, [([], []), ([0], [0]), ([1], [1]), ([], []), ([3], [3]), ([2, 4], [2, 4]), ([0, 0, 1, 2, 3, 4, 5], [0]), ([6, 5, 0, 1, 2, 3, 4, 5], [5, 6])])
def moveStep.B1 : List Nat := [0, 1, 3, 0, 8, 31, 63, 127]
theorem moveStep.tab1 : rtab .any (opsOf Tryz.f44 1) = moveStep.T1 := by kernel_rfl
theorem moveStep.bits1 : waitsOk moveStep.T1.2 moveStep.B1 = true := by kernel_rfl
def moveStep.T2 : Bool × List (List Nat × List Nat) := (true, [([], []), ([0], [0]), ([1], [1]), ([], []), ([3], [3]), ([2, 4], [2, 4])])
def moveStep.B2 : List Nat := [0, 1, 3, 0, 8, 31]
theorem moveStep.tab2 : rtab .any (opsOf Tryz.f44 2) = moveStep.T2 := by kernel_rfl
theorem moveStep.bits2 : waitsOk moveStep.T2.2 moveStep.B2 = true := by kernel_rfl
abbrev edA (e0 e1 e2 : Int) : Array Value := #[.int .i64 e0, .int .i64 e1, .int .i64 e2]
theorem step_stays (e0 e1 e2 n : Int) (g j : Nat) (cs : Array Value) (t : TypeId) (w : World) (HG : Aside0 (w.heap[g]? = some (.cells cs t (0, 0)))) (HJ : Aside0 (cs[j]? = some (.int .i64 n))) (h : n < e1) :
  Calls Tryz.prog 44 #[.agg (edA e0 e1 e2), .pointer (some ⟨g, j, none⟩)] w fun e w' => e = .returned (.int .i64 0) ∧ Below w.heap.size (w.setCell ⟨g, j, none⟩ (.int .i64 n)) w' := by
 have hd : decide (n < e1) = true := decide_eq_true h
 go_enter Tryz.func44, Tryz.ntmps44
 go_wp2
 refine start_ (n := 7) (S := (fun w' => w'.heap[g]? = some (.cells cs t (0, 0)) ∧ w'.heap[w.heap.size]? = some (.cells #[.int .i64 e0, .int .i64 e1, .int .i64 e2] 47 (0, 0)))) (ds := []) (Array.replicate 7 false) (by kernel_rfl) rfl rfl ⟨blk_drew (blk_alloc HG.out _), blk_drew (newBlk w _)⟩ (fun hHeld => ?_)
 refine with_tabW moveStep.tab4 moveStep.bits4 (fun HT_ HW_ => ?_)
 refine pz 0 19 HT_ ?_; refine pz 1 20 HT_ ?_; refine pz 3 22 HT_ ?_
 refine tz 2 21 HT_ HW_ (hr := (by rintro w' s0; have q1 : w'.cell? ⟨g, j, none⟩ = some (.int .i64 n) := (blk_cell s0.1 j).trans HJ.out; have q2 := fun i => blk_cell s0.2 i; go_simp; with_reducible rfl)) (hS := hHeld) (h := ?_)
 refine tz 4 23 HT_ HW_ (hr := (by rintro w' s0; have q1 : w'.cell? ⟨g, j, none⟩ = some (.int .i64 n) := (blk_cell s0.1 j).trans HJ.out; have q2 := fun i => blk_cell s0.2 i; go_simp; with_reducible rfl)) (hS := hHeld) (h := ?_)
 refine pz 5 24 HT_ ?_; refine pz 6 18 HT_ ?_
 refine done_ (done_of HT_.out (by kernel_rfl)) ?_
 go_wp2
 go_ret
 exact ⟨rfl, below_same (below_drew1 (bel1 w _)) HG.out HJ.out⟩
theorem step_ins (e0 e1 e2 n x m : Int) (g j : Nat) (cs : Array Value) (t : TypeId) (w : World) (HG : Aside0 (w.heap[g]? = some (.cells cs t (0, 0)))) (HJ : Aside0 (cs[j]? = some (.int .i64 n))) (h : ¬n < e1) (HI : Aside0 (move_inserts.f e0 e1 e2 = some true)) (HM : Aside0 (move_most.f e0 e1 e2 = some m)) (hx : IntKind.i64.wrap (n + e2) = x) :
  Calls Tryz.prog 44 #[.agg (edA e0 e1 e2), .pointer (some ⟨g, j, none⟩)] w fun e w' => e = .returned (.int .i64 (if x > m then 2 else 0)) ∧ Below w.heap.size (w.setCell ⟨g, j, none⟩ (.int .i64 x)) w' := by
 have hd : decide (n < e1) = false := decide_eq_false h
 have HJ2 := Aside0.mk (put_at (v := .int .i64 x) HJ.out)
 have hgw := blk_lt HG.out
 have hne : w.heap.size ≠ g := by omega
 go_enter Tryz.func44, Tryz.ntmps44
 go_wp2
 refine start_ (n := 7) (S := (fun w' => w'.heap[g]? = some (.cells cs t (0, 0)) ∧ w'.heap[w.heap.size]? = some (.cells #[.int .i64 e0, .int .i64 e1, .int .i64 e2] 47 (0, 0)))) (ds := []) (Array.replicate 7 false) (by kernel_rfl) rfl rfl ⟨blk_drew (blk_alloc HG.out _), blk_drew (newBlk w _)⟩ (fun hHeld => ?_)
 refine with_tabW moveStep.tab4 moveStep.bits4 (fun HT_ HW_ => ?_)
 refine pz 0 19 HT_ ?_; refine pz 1 20 HT_ ?_; refine pz 3 22 HT_ ?_
 refine tz 2 21 HT_ HW_ (hr := (by rintro w' s0; have q1 : w'.cell? ⟨g, j, none⟩ = some (.int .i64 n) := (blk_cell s0.1 j).trans HJ.out; have q2 := fun i => blk_cell s0.2 i; go_simp; with_reducible rfl)) (hS := hHeld) (h := ?_)
 refine tz 4 23 HT_ HW_ (hr := (by rintro w' s0; have q1 : w'.cell? ⟨g, j, none⟩ = some (.int .i64 n) := (blk_cell s0.1 j).trans HJ.out; have q2 := fun i => blk_cell s0.2 i; go_simp; with_reducible rfl)) (hS := hHeld) (h := ?_)
 refine pz 5 24 HT_ ?_; refine pz 6 18 HT_ ?_
 refine done_ (done_of HT_.out (by kernel_rfl)) ?_
 go_wp2_with (go_at_call 50; (with_reducible refine (move_inserts.calls _ _ _ _ _ HI.out).mono ?_); rintro e w1 ⟨rfl, hb⟩; have G1 := Aside0.mk (blk_below (blk_drew (blk_alloc HG.out _)) hb); have E1 := Aside0.mk (blk_below (blk_drew (newBlk w _)) hb); have HB1 := Aside0.mk (below_step (below_drew1 (bel1 w _)) hb); clear hb)
 refine start_ (n := 8) (S := (fun w' => w'.heap[g]? = some (.cells cs t (0, 0)) ∧ w'.heap[w.heap.size]? = some (.cells #[.int .i64 e0, .int .i64 e1, .int .i64 e2] 47 (0, 0)))) (ds := [7]) (Array.replicate 8 false) (by kernel_rfl) rfl rfl ⟨blk_drew G1.out, blk_drew E1.out⟩ (fun hHeld => ?_)
 refine with_tabW moveStep.tab6 moveStep.bits6 (fun HT_ HW_ => ?_)
 refine pz 0 28 HT_ ?_; refine pz 1 29 HT_ ?_; refine pz 3 31 HT_ ?_
 refine tz 2 30 HT_ HW_ (hr := (by rintro w' s0; have q1 : w'.cell? ⟨g, j, none⟩ = some (.int .i64 n) := (blk_cell s0.1 j).trans HJ.out; have q2 := fun i => blk_cell s0.2 i; go_simp; with_reducible rfl)) (hS := hHeld) (h := ?_)
 refine tz 4 32 HT_ HW_ (hr := (by rintro w' s0; have q1 : w'.cell? ⟨g, j, none⟩ = some (.int .i64 n) := (blk_cell s0.1 j).trans HJ.out; have q2 := fun i => blk_cell s0.2 i; go_simp; with_reducible rfl)) (hS := hHeld) (h := ?_)
 refine pz 5 33 HT_ ?_; refine pz 6 34 HT_ ?_
 refine lastI 7 none HT_ rfl rfl (by kernel_rfl) (by decide) (fun K hK => ?_)
 have hs := (blk_cell hHeld.1 j).trans HJ.out
 have hf := blk_frozen hHeld.1 j
 refine skip_ (w1 := ?_) (by rfl) rfl ?_ ?_
 rotate_left
 ·go_simp
  rfl
 refine hK.out _ _ ?_
 clear hK K hs hf
 -- norm_
 refine done_ (done_of HT_.out (by kernel_rfl)) ?_
 go_wp2
 try simp only [hx]
 have G2 := Aside0.mk (blk_put G1.out j (.int .i64 x) (cs' := cs.setIfInBounds j (.int .i64 x)) rfl)
 have E2 := Aside0.mk (blk_far (p := ⟨g, j, none⟩) E1.out hne (.int .i64 x))
 refine start_ (n := 6) (S := (fun w' => w'.heap[g]? = some (.cells (cs.setIfInBounds j (.int .i64 x)) t (0, 0)) ∧ w'.heap[w.heap.size]? = some (.cells #[.int .i64 e0, .int .i64 e1, .int .i64 e2] 47 (0, 0)))) (ds := []) (Array.replicate 6 false) (by kernel_rfl) rfl rfl ⟨blk_drew (blk_drew G2.out), blk_drew (blk_drew E2.out)⟩ (fun hHeld => ?_)
 refine with_tabW moveStep.tab7 moveStep.bits7 (fun HT_ HW_ => ?_)
 refine pz 0 35 HT_ ?_; refine pz 1 36 HT_ ?_
 refine tz 2 37 HT_ HW_ (hr := (by rintro w' s0; have q1 : w'.cell? ⟨g, j, none⟩ = some (.int .i64 x) := (blk_cell s0.1 j).trans HJ2.out; have q2 := fun i => blk_cell s0.2 i; go_simp; with_reducible rfl)) (hS := hHeld) (h := ?_)
 refine tz 3 38 HT_ HW_ (hr := (by rintro w' s0; have q1 : w'.cell? ⟨g, j, none⟩ = some (.int .i64 x) := (blk_cell s0.1 j).trans HJ2.out; have q2 := fun i => blk_cell s0.2 i; go_simp; with_reducible rfl)) (hS := hHeld) (h := ?_)
 refine oneI 4 (some 39) HT_ rfl rfl (by kernel_rfl) (by decide) (fun K hK => ?_)
 refine goes_ Tryz.func70 (by kernel_rfl) rfl #[.agg #[.int .i64 e0, .int .i64 e1, .int .i64 e2]] (by (try simp only [List.map_toArray, List.map_cons, List.map_nil]); first | done | rfl) rfl rfl (by first | rfl | ((try simp only [List.map_toArray, List.map_cons, List.map_nil]); first | done | rfl)) ?_
 with_reducible refine (move_most.calls _ _ _ _ _ HM.out).mono ?_
 rintro e w4 ⟨rfl, hb⟩
 refine ⟨_, rfl, ?_⟩
 have HB4 := Aside0.mk hb
 refine hK.out _ _ ⟨blk_below hHeld.1 hb, blk_below hHeld.2 hb⟩ (fun hHeld => ?_)
 clear hK K
 refine nz 39 ?_
 refine pz 5 40 HT_ ?_
 refine done_ (done_of HT_.out (by kernel_rfl)) ?_
 go_wp2
 all_goals (go_ret; exact ⟨by first | rfl | (simp_all; done) | (simp_all; omega), below_stepP (below_drew1 (below_drew1 (below_put HB1.out HG.out))) HB4.out⟩)
theorem step_del (e0 e1 e2 n x : Int) (g j : Nat) (cs : Array Value) (t : TypeId) (w : World) (HG : Aside0 (w.heap[g]? = some (.cells cs t (0, 0)))) (HJ : Aside0 (cs[j]? = some (.int .i64 n))) (h : ¬n < e1) (HI : Aside0 (move_inserts.f e0 e1 e2 = some false)) (hx : IntKind.i64.wrap (n - e2) = x) :
  Calls Tryz.prog 44 #[.agg (edA e0 e1 e2), .pointer (some ⟨g, j, none⟩)] w fun e w' => e = .returned (.int .i64 (if x < e1 then 1 else 0)) ∧ Below w.heap.size (w.setCell ⟨g, j, none⟩ (.int .i64 x)) w' := by
 have hd : decide (n < e1) = false := decide_eq_false h
 have HJ2 := Aside0.mk (put_at (v := .int .i64 x) HJ.out)
 have hgw := blk_lt HG.out
 have hne : w.heap.size ≠ g := by omega
 go_enter Tryz.func44, Tryz.ntmps44
 go_wp2
 refine start_ (n := 7) (S := (fun w' => w'.heap[g]? = some (.cells cs t (0, 0)) ∧ w'.heap[w.heap.size]? = some (.cells #[.int .i64 e0, .int .i64 e1, .int .i64 e2] 47 (0, 0)))) (ds := []) (Array.replicate 7 false) (by kernel_rfl) rfl rfl ⟨blk_drew (blk_alloc HG.out _), blk_drew (newBlk w _)⟩ (fun hHeld => ?_)
 refine with_tabW moveStep.tab4 moveStep.bits4 (fun HT_ HW_ => ?_)
 refine pz 0 19 HT_ ?_; refine pz 1 20 HT_ ?_; refine pz 3 22 HT_ ?_
 refine tz 2 21 HT_ HW_ (hr := (by rintro w' s0; have q1 : w'.cell? ⟨g, j, none⟩ = some (.int .i64 n) := (blk_cell s0.1 j).trans HJ.out; have q2 := fun i => blk_cell s0.2 i; go_simp; with_reducible rfl)) (hS := hHeld) (h := ?_)
 refine tz 4 23 HT_ HW_ (hr := (by rintro w' s0; have q1 : w'.cell? ⟨g, j, none⟩ = some (.int .i64 n) := (blk_cell s0.1 j).trans HJ.out; have q2 := fun i => blk_cell s0.2 i; go_simp; with_reducible rfl)) (hS := hHeld) (h := ?_)
 refine pz 5 24 HT_ ?_; refine pz 6 18 HT_ ?_
 refine done_ (done_of HT_.out (by kernel_rfl)) ?_
 go_wp2_with (go_at_call 50; (with_reducible refine (move_inserts.calls _ _ _ _ _ HI.out).mono ?_); rintro e w1 ⟨rfl, hb⟩; have G1 := Aside0.mk (blk_below (blk_drew (blk_alloc HG.out _)) hb); have E1 := Aside0.mk (blk_below (blk_drew (newBlk w _)) hb); have HB1 := Aside0.mk (below_step (below_drew1 (bel1 w _)) hb); clear hb)
 refine start_ (n := 8) (S := (fun w' => w'.heap[g]? = some (.cells cs t (0, 0)) ∧ w'.heap[w.heap.size]? = some (.cells #[.int .i64 e0, .int .i64 e1, .int .i64 e2] 47 (0, 0)))) (ds := [7]) (Array.replicate 8 false) (by kernel_rfl) rfl rfl ⟨blk_drew G1.out, blk_drew E1.out⟩ (fun hHeld => ?_)
 refine with_tabW moveStep.tab1 moveStep.bits1 (fun HT_ HW_ => ?_)
 refine pz 0 5 HT_ ?_; refine pz 1 6 HT_ ?_; refine pz 3 8 HT_ ?_
 refine tz 2 7 HT_ HW_ (hr := (by rintro w' s0; have q1 : w'.cell? ⟨g, j, none⟩ = some (.int .i64 n) := (blk_cell s0.1 j).trans HJ.out; have q2 := fun i => blk_cell s0.2 i; go_simp; with_reducible rfl)) (hS := hHeld) (h := ?_)
 refine tz 4 9 HT_ HW_ (hr := (by rintro w' s0; have q1 : w'.cell? ⟨g, j, none⟩ = some (.int .i64 n) := (blk_cell s0.1 j).trans HJ.out; have q2 := fun i => blk_cell s0.2 i; go_simp; with_reducible rfl)) (hS := hHeld) (h := ?_)
 refine pz 5 10 HT_ ?_; refine pz 6 11 HT_ ?_
 refine lastI 7 none HT_ rfl rfl (by kernel_rfl) (by decide) (fun K hK => ?_)
 have hs := (blk_cell hHeld.1 j).trans HJ.out
 have hf := blk_frozen hHeld.1 j
 refine skip_ (w1 := ?_) (by rfl) rfl ?_ ?_
 rotate_left
 ·go_simp
  rfl
 refine hK.out _ _ ?_
 clear hK K hs hf
 -- norm_
 refine done_ (done_of HT_.out (by kernel_rfl)) ?_
 go_wp2
 try simp only [hx]
 have G2 := Aside0.mk (blk_put G1.out j (.int .i64 x) (cs' := cs.setIfInBounds j (.int .i64 x)) rfl)
 have E2 := Aside0.mk (blk_far (p := ⟨g, j, none⟩) E1.out hne (.int .i64 x))
 refine start_ (n := 6) (S := (fun w' => w'.heap[g]? = some (.cells (cs.setIfInBounds j (.int .i64 x)) t (0, 0)) ∧ w'.heap[w.heap.size]? = some (.cells #[.int .i64 e0, .int .i64 e1, .int .i64 e2] 47 (0, 0)))) (ds := []) (Array.replicate 6 false) (by kernel_rfl) rfl rfl ⟨blk_drew (blk_drew G2.out), blk_drew (blk_drew E2.out)⟩ (fun hHeld => ?_)
 refine with_tabW moveStep.tab2 moveStep.bits2 (fun HT_ HW_ => ?_)
 refine pz 0 12 HT_ ?_; refine pz 1 13 HT_ ?_; refine pz 3 15 HT_ ?_
 refine tz 2 14 HT_ HW_ (hr := (by rintro w' s0; have q1 : w'.cell? ⟨g, j, none⟩ = some (.int .i64 x) := (blk_cell s0.1 j).trans HJ2.out; have q2 := fun i => blk_cell s0.2 i; go_simp; with_reducible rfl)) (hS := hHeld) (h := ?_)
 refine tz 4 16 HT_ HW_ (hr := (by rintro w' s0; have q1 : w'.cell? ⟨g, j, none⟩ = some (.int .i64 x) := (blk_cell s0.1 j).trans HJ2.out; have q2 := fun i => blk_cell s0.2 i; go_simp; with_reducible rfl)) (hS := hHeld) (h := ?_)
 refine pz 5 17 HT_ ?_
 refine done_ (done_of HT_.out (by kernel_rfl)) ?_
 go_wp2
 all_goals (go_ret; exact ⟨by first | rfl | (simp_all; done) | (simp_all; omega), below_drew1 (below_drew1 (below_put HB1.out HG.out))⟩)
end Go.Proofs.YthnldbclbfpojaaGreatDoor.Pr
end
