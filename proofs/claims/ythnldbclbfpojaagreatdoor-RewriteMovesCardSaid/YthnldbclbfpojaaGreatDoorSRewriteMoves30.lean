/-
  What the law RewriteMoves leans on, out of the texts that were printed and written for this seat: only what its proof mentions (gathered by a program of the author's).
-/
import Derived.Test.YthnldbclbfpojaaGreatDoorSRewriteMoves11
import Derived.Test.YthnldbclbfpojaaGreatDoorSRewriteMoves21
import Derived.Test.YthnldbclbfpojaaGreatDoorSRewriteMoves29
import Derived.Test.YthnldbclbfpojaaGreatDoorSRewriteMoves13
import Derived.Test.YthnldbclbfpojaaGreatDoorSRewriteMoves23
import Derived.Test.YthnldbclbfpojaaGreatDoorSRewriteMoves25
set_option maxHeartbeats 8000000
set_option maxRecDepth 100000
set_option linter.unusedVariables false
set_option linter.unusedSimpArgs false
section
namespace Go.Proofs.YthnldbclbfpojaaGreatDoor.Pr
open Go.RowKit Go.Proofs.YthnldbclbfpojaaGreatDoorW.PrintWords Go.Proofs.YthnldbclbfpojaaGreatDoorW.PrintLast Go.Proofs.YthnldbclbfpojaaGreatDoorW.PrintMore
def levelI (n : Nd) : Int := if n.f0 = 4 then 4 else if n.f0 = 5 then rLN n.f4 else 5
theorem level_calls (n : Nd) (A : Option Addr) (c : Nat) (w : World) : Calls Tryz.prog 130 #[nodeV n A c] w fun e w' => e = .returned (.int .i64 (levelI n)) ∧ Below w.heap.size w w' := by
 unfold levelI
 have HL := Aside0.mk (rLN_eq n.f4)
 generalize rLN n.f4 = ln at HL ⊢
 by_cases h4 : n.f0 = 4
 ·have h4b : (n.f0 == 4) = true := by simp [h4]
  rw [if_pos h4]
  clear h4
  go_enter Tryz.func130, Tryz.ntmps130
  go_wp2
  go_ret
  exact ⟨rfl, bel1 w _⟩
 ·have h4b : (n.f0 == 4) = false := by simp [h4]
  rw [if_neg h4]
  by_cases h5 : n.f0 = 5
  ·have h5b : (n.f0 == 5) = true := by simp [h5]
   rw [if_pos h5]
   clear h4 h5
   go_enter Tryz.func130, Tryz.ntmps130
   go_wp2_with (go_at_call 67; (with_reducible refine (foolscapref08_Line.calls _ _ _ _ HL.out).mono ?_); rintro e w1 ⟨rfl, nd, rfl⟩)
   go_ret
   exact ⟨rfl, pw_below_drewN (bel1 w _) _⟩
  ·have h5b : (n.f0 == 5) = false := by simp [h5]
   rw [if_neg h5]
   clear h4 h5
   go_enter Tryz.func130, Tryz.ntmps130
   go_wp2
   go_ret
   exact ⟨rfl, bel1 w _⟩
def catS (a b : ByteArray) : Option ByteArray := if a.size + b.size ≤ 9223372036854775807 then some (a ++ b) else none
theorem catS_some {a b r : ByteArray} (h : catS a b = some r) : r = a ++ b ∧ a.size + b.size ≤ 9223372036854775807 := by
 unfold catS at h
 split at h
 ·exact ⟨(Option.some.inj h).symm, by assumption⟩
 ·cases h
abbrev TextOut (s : ByteArray) (w : World) (e : Ending) (w' : World) : Prop := e = .returned (.string s) ∧ Below w.heap.size w w'
theorem within_bare (n : Nd) (least : Int) (s : ByteArray) (A : Option Addr) (c : Nat) (w : World) (h : ¬levelI n < least) (HT : Aside0 (∀ W, Below w.heap.size w W → Calls Tryz.prog 84 #[nodeV n A c] W (TextOut s W))) :
  Calls Tryz.prog 110 #[nodeV n A c, .int .i64 least] w (TextOut s w) := by
 have hd : decide (levelI n < least) = false := decide_eq_false h
 have HLv := Aside0.mk fun W => level_calls n A c W
 generalize levelI n = lv at HLv hd
 clear h
 go_enter Tryz.func110, Tryz.ntmps110
 go_wp2_with (first
  | (go_at_call 130; (with_reducible refine (HLv.out _).mono ?_); rintro e w1 ⟨rfl, hb⟩; have HB1 := Aside0.mk (below_step (bel1 w _) hb); have B2 := Aside0.mk (blk_below (newBlk w _) hb); have hc := fun i => blk_cell B2.out i; clear hb)
  | (go_at_call 84; (with_reducible refine (HT.out _ HB1.out).mono ?_); rintro e w2 ⟨rfl, hb⟩; have HB2 := Aside0.mk (below_step HB1.out hb); clear hb))
 go_ret
 exact ⟨rfl, HB2.out⟩
theorem within_wrap (n : Nd) (least : Int) (s : ByteArray) (A : Option Addr) (c : Nat) (w : World) (h : levelI n < least) (hs : s.size ≤ 9223372036854775800) (HT : Aside0 (∀ W, Below w.heap.size w W → Calls Tryz.prog 84 #[nodeV n A c] W (TextOut s W))) :
  Calls Tryz.prog 110 #[nodeV n A c, .int .i64 least] w (TextOut (((⟨#[40]⟩ : ByteArray) ++ s) ++ (⟨#[41]⟩ : ByteArray)) w) := by
 have hd : decide (levelI n < least) = true := decide_eq_true h
 have HLv := Aside0.mk fun W => level_calls n A c W
 generalize levelI n = lv at HLv hd
 have s1 : 1 + s.size ≤ 9223372036854775807 := by omega
 have s2 : ((⟨#[40]⟩ : ByteArray) ++ s).size + 1 ≤ 9223372036854775807 := by rw [ByteArray.size_append]; show 1 + s.size + 1 ≤ _; omega
 have s1a := eq_true s1
 have s2a := eq_true s2
 have s1c : (9223372036854775807 < 1 + s.size) = False := eq_false (by omega)
 have s2c : (9223372036854775807 < ((⟨#[40]⟩ : ByteArray) ++ s).size + 1) = False := eq_false (by omega)
 clear h
 go_enter Tryz.func110, Tryz.ntmps110
 go_wp2_with (first
  | (go_at_call 130; (with_reducible refine (HLv.out _).mono ?_); rintro e w1 ⟨rfl, hb⟩; have HB1 := Aside0.mk (below_step (bel1 w _) hb); have B2 := Aside0.mk (blk_below (newBlk w _) hb); have hc := fun i => blk_cell B2.out i; clear hb)
  | (go_at_call 84; (with_reducible refine (HT.out _ HB1.out).mono ?_); rintro e w2 ⟨rfl, hb⟩; have HB2 := Aside0.mk (below_step HB1.out hb); clear hb))
 go_ret
 exact ⟨rfl, HB2.out⟩
theorem text_value (kf : Nat) (n : Nd) (s : ByteArray) (i : Int) (A : Option Addr) (c : Nat) (w : World) (h1 : n.f0 = 1) (h2 : ¬n.f1.f0 = 2) (HS : Aside0 (foolscapref04_Show.f kf n.f1.f0 n.f1.f1 n.f1.f2 n.f1.f3 n.f1.f4 = some (s, i))) :
  Calls Tryz.prog 84 #[nodeV n A c] w (TextOut s w) := by
 have h1b : (n.f0 == 1) = true := by simp [h1]
 have h2b : (n.f1.f0 == 2) = false := by simp [h2]
 clear h1 h2
 go_enter Tryz.func84, Tryz.ntmps84
 go_wp2_with (first
  | (go_at_call 108; (with_reducible refine (foolscapref04_Show.calls _ _ _ _ _ _ _ _ _ HS.out).mono ?_); rintro e w1 ⟨rfl, hb⟩; have HB1 := Aside0.mk (below_step (bel1 w _) hb); clear hb))
 go_ret
 exact ⟨rfl, HB1.out⟩
theorem text_quoted (kf : Nat) (n : Nd) (s : ByteArray) (A : Option Addr) (c : Nat) (w : World) (h1 : n.f0 = 1) (h2 : n.f1.f0 = 2) (HS : Aside0 (foolscapref08_quoted.f kf n.f1.f2 = some s)) :
  Calls Tryz.prog 84 #[nodeV n A c] w (TextOut s w) := by
 have h1b : (n.f0 == 1) = true := by simp [h1]
 have h2b : (n.f1.f0 == 2) = true := by simp [h2]
 clear h1 h2
 go_enter Tryz.func84, Tryz.ntmps84
 go_wp2_with (first
  | (go_at_call 107; (with_reducible refine (foolscapref08_quoted.calls _ _ _ _ HS.out).mono ?_); rintro e w1 ⟨rfl, nd, rfl⟩))
 go_ret
 exact ⟨rfl, pw_below_drewN (bel1 w _) _⟩
theorem text_cell (kf : Nat) (n : Nd) (s : ByteArray) (i : Int) (A : Option Addr) (c : Nat) (w : World) (h2 : n.f0 = 2) (HS : Aside0 (foolscapref05_Print.f kf n.f2.f0.f0 n.f2.f0.f1 n.f2.f1 n.f2.f2 = some (s, i))) :
  Calls Tryz.prog 84 #[nodeV n A c] w (TextOut s w) := by
 have h1b : (n.f0 == 1) = false := by simp [h2]
 have h2b : (n.f0 == 2) = true := by simp [h2]
 clear h2
 go_enter Tryz.func84, Tryz.ntmps84
 go_wp2_with (first
  | (go_at_call 109; (with_reducible refine (foolscapref05_Print.calls _ _ _ _ _ _ _ _ HS.out).mono ?_); rintro e w1 ⟨rfl, hb⟩; have HB1 := Aside0.mk (below_step (bel1 w _) hb); clear hb))
 go_ret
 exact ⟨rfl, HB1.out⟩
theorem text_range (kf : Nat) (n : Nd) (s t : ByteArray) (i j : Int) (A : Option Addr) (c : Nat) (w : World) (h3 : n.f0 = 3) (HS : Aside0 (foolscapref05_Print.f kf n.f2.f0.f0 n.f2.f0.f1 n.f2.f1 n.f2.f2 = some (s, i))) (HT : Aside0 (foolscapref05_Print.f kf n.f3.f0.f0 n.f3.f0.f1 n.f3.f1 n.f3.f2 = some (t, j)))
  (q1 : s.size + 1 ≤ 9223372036854775807) (q2 : (s ++ (⟨#[58]⟩ : ByteArray)).size + t.size ≤ 9223372036854775807) :
  Calls Tryz.prog 84 #[nodeV n A c] w (TextOut ((s ++ (⟨#[58]⟩ : ByteArray)) ++ t) w) := by
 have h1b : (n.f0 == 1) = false := by simp [h3]
 have h2b : (n.f0 == 2) = false := by simp [h3]
 have h3b : (n.f0 == 3) = true := by simp [h3]
 have q1a := eq_true q1
 have q2a := eq_true q2
 have q1c : (9223372036854775807 < s.size + 1) = False := eq_false (by omega)
 have q2c : (9223372036854775807 < (s ++ (⟨#[58]⟩ : ByteArray)).size + t.size) = False := eq_false (by omega)
 clear h3
 go_enter Tryz.func84, Tryz.ntmps84
 go_wp2_with (first
  | (go_at_call 109; (with_reducible refine (foolscapref05_Print.calls _ _ _ _ _ _ _ _ HS.out).mono ?_); clear HS; rintro e w1 ⟨rfl, hb⟩; have HB1 := Aside0.mk (below_step (bel1 w _) hb); have B1 := Aside0.mk (blk_below (newBlk w _) hb); have hc := fun i => blk_cell B1.out i; clear hb)
  | (go_at_call 109; (with_reducible refine (foolscapref05_Print.calls _ _ _ _ _ _ _ _ HT.out).mono ?_); clear HT; rintro e w2 ⟨rfl, hb⟩; have HB2 := Aside0.mk (below_step HB1.out hb); clear hb))
 go_ret
 exact ⟨rfl, HB2.out⟩
abbrev wayV2 (P : Value) : Value := .agg #[.func (.func 71) #[] #[P], .func (.func 72) #[] #[P]]
def CellLaw2 (P : Value) (X : Ce → Ce) (b : Ce → Bool) (w : World) : Prop := ∀ (c : Ce) (W : World), Below w.heap.size w W → Calls Tryz.prog 71 #[.agg (cellA c), P] W fun e w' => e = .returned (.tuple #[.agg (cellA (X c)), .bool (b c)]) ∧ Below W.heap.size W w'
def SpanLaw2 (P : Value) (X Y : Ce → Ce → Ce) (b : Ce → Ce → Bool) (w : World) : Prop := ∀ (a c : Ce) (W : World), Below w.heap.size w W → Calls Tryz.prog 72 #[.agg (cellA a), .agg (cellA c), P] W fun e w' => e = .returned (.tuple #[.agg (cellA (X a c)), .agg (cellA (Y a c)), .bool (b a c)]) ∧ Below W.heap.size W w'
theorem CellLaw2.below {P : Value} {X : Ce → Ce} {b : Ce → Bool} {w w1 : World} (h : CellLaw2 P X b w) (hb : Below w.heap.size w w1) : CellLaw2 P X b w1 := fun c W hW => h c W (below_step hb hW)
theorem SpanLaw2.below {P : Value} {X Y : Ce → Ce → Ce} {b : Ce → Ce → Bool} {w w1 : World} (h : SpanLaw2 P X Y b w) (hb : Below w.heap.size w w1) : SpanLaw2 P X Y b w1 := fun a c W hW => h a c W (below_step hb hW)
theorem node2_cell_some (P : Value) (f1 : S26) (f2 f3 x : Ce) (f4 : ByteArray) (A : Option Addr) (c : Nat) (w : World)
  (hC : ∀ (W : World), Below w.heap.size w W → Calls Tryz.prog 71 #[.agg (cellA f2), P] W fun e w' => e = .returned (.tuple #[.agg (cellA x), .bool true]) ∧ Below W.heap.size W w') :
  Calls Tryz.prog 33 #[wayV2 P, nodeV ⟨2, f1, f2, f3, f4, []⟩ A c] w (NodeOut ⟨2, f1, x, f3, f4, []⟩ w) := by
 have HC := Aside0.mk hC
 clear hC
 have hne : w.heap.size + 2 ≠ w.heap.size + 1 := by omega
 go_enter Tryz.func33, Tryz.ntmps33
 go_wp2_with (first
  | (go_at_call 71; (with_reducible refine (HC.out _ (bel3 w _ _ _)).mono ?_); rintro e w1 ⟨rfl, hb⟩; have HB1 := Aside0.mk (below_step (bel3 w _ _ _) hb); have B3 := Aside0.mk (blk_below (newBlk3b w (.cells #[.func (.func 71) #[] #[P], .func (.func 72) #[] #[P]] 76) (.cells (nodeA ⟨2, f1, f2, f3, f4, []⟩ A c) 33) (.cells (nodeA zeroN none 0) 33)) hb); have B4 := Aside0.mk (blk_below (newBlk3c w (.cells #[.func (.func 71) #[] #[P], .func (.func 72) #[] #[P]] 76) (.cells (nodeA ⟨2, f1, f2, f3, f4, []⟩ A c) 33) (.cells (nodeA zeroN none 0) 33)) hb); have hc := fun i => blk_cell B3.out i; have hf := fun i => blk_frozen B3.out i; clear hb))
 refine wp_loop_rounds 1 ?_
 rw [rounds_succ]
 go_wp2_with ((with_reducible refine gate_store (t := 33) (p := 4) (v := .tmp 56) rfl ?_); refine wpRowSt rfl 33 (.tmp 4) (.tmp 56) rfl (w.heap.size + 2) (nodeA ⟨2, f1, x, f3, f4, []⟩ none 0) rfl rfl 33 _ (blk_far (p := ⟨w.heap.size + 1, 15, none⟩) (blk_far (p := ⟨w.heap.size + 1, 9, none⟩) (blk_far (p := ⟨w.heap.size + 1, 8, none⟩) (blk_far (p := ⟨w.heap.size + 1, 7, none⟩) (blk_far (p := ⟨w.heap.size + 1, 6, none⟩) B4.out hne _) hne _) hne _) hne _) hne _) (by kernel_rfl) rfl rfl ?_)
 refine bodyPost_ret (results_cell_row rfl _ _ (w.heap.size + 2) 33 (nodeA ⟨2, f1, x, f3, f4, []⟩ none 0) (0, 0) _ rfl (setRow_heap _ _ _ _ _ _ (blk_far (p := ⟨w.heap.size + 1, 15, none⟩) (blk_far (p := ⟨w.heap.size + 1, 9, none⟩) (blk_far (p := ⟨w.heap.size + 1, 8, none⟩) (blk_far (p := ⟨w.heap.size + 1, 7, none⟩) (blk_far (p := ⟨w.heap.size + 1, 6, none⟩) B4.out hne _) hne _) hne _) hne _) hne _)) Tryz.underlying33 rfl (by kernel_rfl)) rfl ?_
 exact ⟨none, 0, rfl, kidsF_nil _ _ _ _, rowBelow (below_set (below_set (below_set (below_set (below_set HB1.out (Nat.le_succ _)) (Nat.le_succ _)) (Nat.le_succ _)) (Nat.le_succ _)) (Nat.le_succ _)) (by omega) _⟩
theorem node2_cell_none (P : Value) (f1 : S26) (f2 f3 x : Ce) (f4 : ByteArray) (A : Option Addr) (c : Nat) (w : World)
  (hC : ∀ (W : World), Below w.heap.size w W → Calls Tryz.prog 71 #[.agg (cellA f2), P] W fun e w' => e = .returned (.tuple #[.agg (cellA x), .bool false]) ∧ Below W.heap.size W w') :
  Calls Tryz.prog 33 #[wayV2 P, nodeV ⟨2, f1, f2, f3, f4, []⟩ A c] w (NodeOut lostN w) := by
 have HC := Aside0.mk hC
 clear hC
 have hne : w.heap.size + 2 ≠ w.heap.size + 1 := by omega
 go_enter Tryz.func33, Tryz.ntmps33
 go_wp2_with (first
  | (go_at_call 71; (with_reducible refine (HC.out _ (bel3 w _ _ _)).mono ?_); rintro e w1 ⟨rfl, hb⟩; have HB1 := Aside0.mk (below_step (bel3 w _ _ _) hb); have B3 := Aside0.mk (blk_below (newBlk3b w (.cells #[.func (.func 71) #[] #[P], .func (.func 72) #[] #[P]] 76) (.cells (nodeA ⟨2, f1, f2, f3, f4, []⟩ A c) 33) (.cells (nodeA zeroN none 0) 33)) hb); have B4 := Aside0.mk (blk_below (newBlk3c w (.cells #[.func (.func 71) #[] #[P], .func (.func 72) #[] #[P]] 76) (.cells (nodeA ⟨2, f1, f2, f3, f4, []⟩ A c) 33) (.cells (nodeA zeroN none 0) 33)) hb); have hc := fun i => blk_cell B3.out i; have hf := fun i => blk_frozen B3.out i; clear hb)
  | (go_at_call 58; (with_reducible refine (lost_calls _).mono ?_); rintro e w3 ⟨rfl, hb⟩; have HB3 := Aside0.mk (below_step (below_set (below_set (below_set (below_set HB1.out (Nat.le_succ _)) (Nat.le_succ _)) (Nat.le_succ _)) (Nat.le_succ _)) hb); have D4 := Aside0.mk (blk_below (blk_far (p := ⟨w.heap.size + 1, 9, none⟩) (blk_far (p := ⟨w.heap.size + 1, 8, none⟩) (blk_far (p := ⟨w.heap.size + 1, 7, none⟩) (blk_far (p := ⟨w.heap.size + 1, 6, none⟩) B4.out hne _) hne _) hne _) hne _) hb); clear hb)
  | ((with_reducible refine gate_store (t := 33) (p := 4) (v := .tmp 39) rfl ?_); refine wpRowSt rfl 33 (.tmp 4) (.tmp 39) rfl (w.heap.size + 2) (nodeA lostN none 0) rfl rfl 33 _ D4.out (by kernel_rfl) rfl rfl ?_))
 refine bodyPost_ret (results_cell_row rfl _ _ (w.heap.size + 2) 33 (nodeA lostN none 0) (0, 0) _ rfl (setRow_heap _ _ _ _ _ _ D4.out) Tryz.underlying33 rfl (by kernel_rfl)) rfl ?_
 exact ⟨none, 0, rfl, kidsF_nil _ _ _ _, rowBelow HB3.out (by omega) _⟩
theorem node2_span_some (P : Value) (f1 : S26) (f2 f3 x y : Ce) (f4 : ByteArray) (A : Option Addr) (c : Nat) (w : World)
  (hC : ∀ (W : World), Below w.heap.size w W → Calls Tryz.prog 72 #[.agg (cellA f2), .agg (cellA f3), P] W fun e w' => e = .returned (.tuple #[.agg (cellA x), .agg (cellA y), .bool true]) ∧ Below W.heap.size W w') :
  Calls Tryz.prog 33 #[wayV2 P, nodeV ⟨3, f1, f2, f3, f4, []⟩ A c] w (NodeOut ⟨3, f1, x, y, f4, []⟩ w) := by
 have HC := Aside0.mk hC
 clear hC
 have hne : w.heap.size + 2 ≠ w.heap.size + 1 := by omega
 go_enter Tryz.func33, Tryz.ntmps33
 go_wp2_with (first
  | (go_at_call 72; (with_reducible refine (HC.out _ (bel3 w _ _ _)).mono ?_); rintro e w1 ⟨rfl, hb⟩; have HB1 := Aside0.mk (below_step (bel3 w _ _ _) hb); have B3 := Aside0.mk (blk_below (newBlk3b w (.cells #[.func (.func 71) #[] #[P], .func (.func 72) #[] #[P]] 76) (.cells (nodeA ⟨3, f1, f2, f3, f4, []⟩ A c) 33) (.cells (nodeA zeroN none 0) 33)) hb); have B4 := Aside0.mk (blk_below (newBlk3c w (.cells #[.func (.func 71) #[] #[P], .func (.func 72) #[] #[P]] 76) (.cells (nodeA ⟨3, f1, f2, f3, f4, []⟩ A c) 33) (.cells (nodeA zeroN none 0) 33)) hb); have hc := fun i => blk_cell B3.out i; have hf := fun i => blk_frozen B3.out i; clear hb))
 refine wp_loop_rounds 1 ?_
 rw [rounds_succ]
 go_wp2_with ((with_reducible refine gate_store (t := 33) (p := 4) (v := .tmp 56) rfl ?_); refine wpRowSt rfl 33 (.tmp 4) (.tmp 56) rfl (w.heap.size + 2) (nodeA ⟨3, f1, x, y, f4, []⟩ none 0) rfl rfl 33 _ (blk_far (p := ⟨w.heap.size + 1, 15, none⟩) (blk_far (p := ⟨w.heap.size + 1, 13, none⟩) (blk_far (p := ⟨w.heap.size + 1, 12, none⟩) (blk_far (p := ⟨w.heap.size + 1, 11, none⟩) (blk_far (p := ⟨w.heap.size + 1, 10, none⟩) (blk_far (p := ⟨w.heap.size + 1, 9, none⟩) (blk_far (p := ⟨w.heap.size + 1, 8, none⟩) (blk_far (p := ⟨w.heap.size + 1, 7, none⟩) (blk_far (p := ⟨w.heap.size + 1, 6, none⟩) B4.out hne _) hne _) hne _) hne _) hne _) hne _) hne _) hne _) hne _) (by kernel_rfl) rfl rfl ?_)
 refine bodyPost_ret (results_cell_row rfl _ _ (w.heap.size + 2) 33 (nodeA ⟨3, f1, x, y, f4, []⟩ none 0) (0, 0) _ rfl (setRow_heap _ _ _ _ _ _ (blk_far (p := ⟨w.heap.size + 1, 15, none⟩) (blk_far (p := ⟨w.heap.size + 1, 13, none⟩) (blk_far (p := ⟨w.heap.size + 1, 12, none⟩) (blk_far (p := ⟨w.heap.size + 1, 11, none⟩) (blk_far (p := ⟨w.heap.size + 1, 10, none⟩) (blk_far (p := ⟨w.heap.size + 1, 9, none⟩) (blk_far (p := ⟨w.heap.size + 1, 8, none⟩) (blk_far (p := ⟨w.heap.size + 1, 7, none⟩) (blk_far (p := ⟨w.heap.size + 1, 6, none⟩) B4.out hne _) hne _) hne _) hne _) hne _) hne _) hne _) hne _) hne _)) Tryz.underlying33 rfl (by kernel_rfl)) rfl ?_
 exact ⟨none, 0, rfl, kidsF_nil _ _ _ _, rowBelow (below_set (below_set (below_set (below_set (below_set (below_set (below_set (below_set (below_set HB1.out (Nat.le_succ _)) (Nat.le_succ _)) (Nat.le_succ _)) (Nat.le_succ _)) (Nat.le_succ _)) (Nat.le_succ _)) (Nat.le_succ _)) (Nat.le_succ _)) (Nat.le_succ _)) (by omega) _⟩
theorem node2_span_none (P : Value) (f1 : S26) (f2 f3 x y : Ce) (f4 : ByteArray) (A : Option Addr) (c : Nat) (w : World)
  (hC : ∀ (W : World), Below w.heap.size w W → Calls Tryz.prog 72 #[.agg (cellA f2), .agg (cellA f3), P] W fun e w' => e = .returned (.tuple #[.agg (cellA x), .agg (cellA y), .bool false]) ∧ Below W.heap.size W w') :
  Calls Tryz.prog 33 #[wayV2 P, nodeV ⟨3, f1, f2, f3, f4, []⟩ A c] w (NodeOut lostN w) := by
 have HC := Aside0.mk hC
 clear hC
 have hne : w.heap.size + 2 ≠ w.heap.size + 1 := by omega
 go_enter Tryz.func33, Tryz.ntmps33
 go_wp2_with (first
  | (go_at_call 72; (with_reducible refine (HC.out _ (bel3 w _ _ _)).mono ?_); rintro e w1 ⟨rfl, hb⟩; have HB1 := Aside0.mk (below_step (bel3 w _ _ _) hb); have B3 := Aside0.mk (blk_below (newBlk3b w (.cells #[.func (.func 71) #[] #[P], .func (.func 72) #[] #[P]] 76) (.cells (nodeA ⟨3, f1, f2, f3, f4, []⟩ A c) 33) (.cells (nodeA zeroN none 0) 33)) hb); have B4 := Aside0.mk (blk_below (newBlk3c w (.cells #[.func (.func 71) #[] #[P], .func (.func 72) #[] #[P]] 76) (.cells (nodeA ⟨3, f1, f2, f3, f4, []⟩ A c) 33) (.cells (nodeA zeroN none 0) 33)) hb); have hc := fun i => blk_cell B3.out i; have hf := fun i => blk_frozen B3.out i; clear hb)
  | (go_at_call 58; (with_reducible refine (lost_calls _).mono ?_); rintro e w3 ⟨rfl, hb⟩; have HB3 := Aside0.mk (below_step (below_set (below_set (below_set (below_set (below_set (below_set (below_set (below_set HB1.out (Nat.le_succ _)) (Nat.le_succ _)) (Nat.le_succ _)) (Nat.le_succ _)) (Nat.le_succ _)) (Nat.le_succ _)) (Nat.le_succ _)) (Nat.le_succ _)) hb); have D4 := Aside0.mk (blk_below (blk_far (p := ⟨w.heap.size + 1, 13, none⟩) (blk_far (p := ⟨w.heap.size + 1, 12, none⟩) (blk_far (p := ⟨w.heap.size + 1, 11, none⟩) (blk_far (p := ⟨w.heap.size + 1, 10, none⟩) (blk_far (p := ⟨w.heap.size + 1, 9, none⟩) (blk_far (p := ⟨w.heap.size + 1, 8, none⟩) (blk_far (p := ⟨w.heap.size + 1, 7, none⟩) (blk_far (p := ⟨w.heap.size + 1, 6, none⟩) B4.out hne _) hne _) hne _) hne _) hne _) hne _) hne _) hne _) hb); clear hb)
  | ((with_reducible refine gate_store (t := 33) (p := 4) (v := .tmp 39) rfl ?_); refine wpRowSt rfl 33 (.tmp 4) (.tmp 39) rfl (w.heap.size + 2) (nodeA lostN none 0) rfl rfl 33 _ D4.out (by kernel_rfl) rfl rfl ?_))
 refine bodyPost_ret (results_cell_row rfl _ _ (w.heap.size + 2) 33 (nodeA lostN none 0) (0, 0) _ rfl (setRow_heap _ _ _ _ _ _ D4.out) Tryz.underlying33 rfl (by kernel_rfl)) rfl ?_
 exact ⟨none, 0, rfl, kidsF_nil _ _ _ _, rowBelow HB3.out (by omega) _⟩
theorem node2_calls (P : Value) (X : Ce → Ce) (b : Ce → Bool) (Y Z : Ce → Ce → Ce) (b2 : Ce → Ce → Bool) (d : Nat) : ∀ (n : Nd) (A : Option Addr) (c : Nat) (w : World) (hd : szN n < d) (hK : KidsC w A c n.f5) (hS : allS leafB n = true)
  (hC : CellLaw2 P X b w) (hD : SpanLaw2 P Y Z b2 w),
  Calls Tryz.prog 33 #[wayV2 P, nodeV n A c] w (NodeOut (wayS (way1 X b) (way2 Y Z b2) n) w) := by
 induction d with
 | zero => intro n A c w hd; omega
 | succ d ih =>
 intro n A c w hd hK hS hC hD
 by_cases h2 : n.f0 = 2
 ·have hl0 := leaf_nil (allS_kid hS).1 (Or.inl h2)
  rw [wayS_eq, if_pos h2, hl0]
  obtain ⟨f0, f1, f2, f3, f4, l⟩ := n
  simp only at h2 hl0
  subst h2
  subst hl0
  cases hq : b f2 with
  | true =>
   rw [show way1 X b f2 = some (X f2) from by unfold way1; rw [if_pos hq]]
   exact node2_cell_some P f1 f2 f3 (X f2) f4 A c w (fun W hW => by have := hC f2 W hW; rwa [hq] at this)
  | false =>
   rw [show way1 X b f2 = none from by unfold way1; rw [if_neg (by simp [hq])]]
   exact node2_cell_none P f1 f2 f3 (X f2) f4 A c w (fun W hW => by have := hC f2 W hW; rwa [hq] at this)
 by_cases h3 : n.f0 = 3
 ·have hl0 := leaf_nil (allS_kid hS).1 (Or.inr h3)
  rw [wayS_eq, if_neg h2, if_pos h3, hl0]
  obtain ⟨f0, f1, f2, f3, f4, l⟩ := n
  simp only at h3 hl0
  subst h3
  subst hl0
  cases hq : b2 f2 f3 with
  | true =>
   rw [show way2 Y Z b2 f2 f3 = some (Y f2 f3, Z f2 f3) from by unfold way2; rw [if_pos hq]]
   exact node2_span_some P f1 f2 f3 (Y f2 f3) (Z f2 f3) f4 A c w (fun W hW => by have := hD f2 f3 W hW; rwa [hq] at this)
  | false =>
   rw [show way2 Y Z b2 f2 f3 = none from by unfold way2; rw [if_neg (by simp [hq])]]
   exact node2_span_none P f1 f2 f3 (Y f2 f3) (Z f2 f3) f4 A c w (fun W hW => by have := hD f2 f3 W hW; rwa [hq] at this)
 ·obtain ⟨hlc, hCC⟩ := hK
  have hmax := hCC.2.1
  have HC := Aside0.mk hCC
  have HD := Aside0.mk hd
  have HS := Aside0.mk (allS_kid hS)
  have hfew : n.f5.length ≤ 4096 := by have := HS.out.1; simp only [leafB, Bool.and_eq_true, decide_eq_true_eq] at this; exact this.1
  have HI := Aside0.mk fun (x : Nd) (A : Option Addr) (c : Nat) (W : World) (hm : x ∈ n.f5) (hW : Below w.heap.size w W) (hx : KidsC W A c x.f5) => ih x A c W (by have := kid_lt hm; have := HD.out; omega) hx (HS.out.2 _ hm) (hC.below hW) (hD.below hW)
  clear hCC ih hd hS HS HD hC hD
  have HX := Aside0.mk (show wayS (way1 X b) (way2 Y Z b2) n = withK n (n.f5.map (wayS (way1 X b) (way2 Y Z b2))) by rw [wayS_eq, if_neg h2, if_neg h3])
  generalize hG : wayS (way1 X b) (way2 Y Z b2) = g at HX HI ⊢
  generalize g n = x at HX ⊢
  clear hG
  have hb2 : (n.f0 == 2) = false := by simp [h2]
  have hb3 : (n.f0 == 3) = false := by simp [h3]
  go_enter Tryz.func33, Tryz.ntmps33
  go_wp2
  go_loopw [6, 43] (fun v i wr => ∃ (q : Nat), q ≤ n.f5.length ∧ i = .int .i64 q ∧ Aside0 (Kd.N k33 33 wr w.heap.size (fun z => w.heap.size + 3 ≤ z) v ((n.f5.take q).map g)) ∧ Aside0 (w.heap.size + 3 ≤ wr.heap.size) ∧ Aside0 (Below w.heap.size w wr) ∧ Aside0 (wr.heap[w.heap.size]? = some (.cells #[.func (.func 71) #[] #[P], .func (.func 72) #[] #[P]] 76 (0, 0))) ∧ Aside0 (wr.heap[w.heap.size + 1]? = some (.cells (nodeA n A c) 33 (0, 0))) ∧ Aside0 (wr.heap[w.heap.size + 2]? = some (.cells (nodeA zeroN none 0) 33 (0, 0)))) (fun _ i _ => n.f5.length - (intOf i).toNat)
  case atStart => exact ⟨0, by omega, rfl, ⟨Kd.N_nil _ _ _ _ _⟩, ⟨by simp⟩, ⟨bel3 w _ _ _⟩, ⟨newBlk3a w _ _ _⟩, ⟨newBlk3b w _ _ _⟩, ⟨newBlk3c w _ _ _⟩⟩
  case round =>
   obtain ⟨q, hk, rfl, HN, HZ, HB, HW, HBk, HO⟩ := hrel
   by_cases hkl : q < n.f5.length
   ·obtain ⟨ad, A', c', e, hK', g0, g1, g2, g3, g4, g5, g6, g7, g8, g9, g10, g11, g12, g13, g14, g15⟩ := at_kid (Kd.C_below HC.out HB.out) q hkl
    subst e
    have HK' := Aside0.mk hK'
    clear hK'
    have HM := Aside0.mk (List.getElem_mem hkl)
    have HT := Aside0.mk (show (n.f5.take (q + 1)).map g = (n.f5.take q).map g ++ [g n.f5[q]] by rw [List.take_succ_eq_append_getElem hkl, List.map_append]; rfl)
    have hw := fun (o : Obj) (i : Nat) => blk_cell (blk_alloc HW.out o) i
    go_wp2_with (first
     | (go_at_call 33; (with_reducible refine (HI.out n.f5[q] A' c' _ HM.out (below_alloc HB.out _) (HK'.out.below (bel1 wr _))).mono ?_); rintro e w3 ⟨A2, c2, rfl, hF, hb⟩; have HB3 := Aside0.mk (below_step (bel1 wr _) hb); have HF := Aside0.mk (hF.lower (b' := wr.heap.size) (by simp)); clear hb hF)
     | (at_builtin; refine Kd.N_append k33 (w0 := w) w.heap.size rfl (.tmp 47) (.tmp 51) 31 33 (.agg #[(.int .i64 0), (.int .i64 0), (.int .i64 0), (.string ⟨#[]⟩), (.bool false), (.int .i64 0), (.int .i64 0), (.int .i64 0), (.bool false), (.bool false), (.int .i64 0), (.int .i64 0), (.bool false), (.bool false), (.string ⟨#[]⟩), (.slice none 0 0)]) 144 rfl Tryz.underlying31 info33 rfl (by decide) (by omega) _ ((n.f5.take q).map g) (g n.f5[q]) (nodeA (g n.f5[q]) A2 c2).toList (fun z => w.heap.size + 3 ≤ z) (fun z => wr.heap.size ≤ z) rfl rfl (kid_FK _ HF.out) ?aK ?aF (Kd.N_below HN.out HB3.out) (below_step HB.out HB3.out) ?aS ?aL ?_; (case aK => exact fun z hz => ⟨Nat.le_trans HZ.out hz, fun he => by have := Kd.N_lt HN.out _ he.symm; omega⟩); (case aF => exact fun z hz => by have := HZ.out; have := HB3.out.size; omega); (case aS => exact (below_size (below_step HB.out HB3.out))); (case aL => rw [List.length_map, List.length_take]; omega); intro v1 w4 ho hb2 hg hat; have HN2 := Aside0.mk ho; have HB2 := Aside0.mk hb2; have HG2 := Aside0.mk hg; clear ho hb2 hg hat))
    have h2' := blk_grown (blk_below HO.out HB3.out) HG2.out (fun he => by have := HN.out.1 _ he.symm; omega)
    refine ⟨⟨q + 1, by omega, by go_num, ⟨by rw [HT.out]; exact HN2.out⟩, ⟨by have := blk_lt h2'; omega⟩, HB2, ⟨blk_grown (blk_below HW.out HB3.out) HG2.out (fun he => by have := HN.out.1 _ he.symm; omega)⟩, ⟨blk_grown (blk_below HBk.out HB3.out) HG2.out (fun he => by have := HN.out.1 _ he.symm; omega)⟩, ⟨h2'⟩⟩, ?_⟩
    simp [intOf]; omega
   ·have HN' := Aside0.mk HN.out
    rw [List.take_of_length_le (by omega)] at HN'
    obtain ⟨A2, c2, rfl⟩ := Kd.N_slice HN'.out
    clear HN HC HI HW
    have hc := fun i => blk_cell HBk.out i
    have hf := fun i => blk_frozen HBk.out i
    have hne : w.heap.size + 2 ≠ w.heap.size + 1 := by omega
    go_wp2_with ((with_reducible refine gate_store (t := 33) (p := 4) (v := .tmp 56) rfl ?_); refine wpRowSt rfl 33 (.tmp 4) (.tmp 56) rfl (w.heap.size + 2) (nodeA n A2 c2) rfl rfl 33 _ (blk_far (p := ⟨w.heap.size + 1, 15, none⟩) HO.out hne _) (by kernel_rfl) rfl rfl ?_)
    refine bodyPost_ret (results_cell_row rfl _ _ (w.heap.size + 2) 33 (nodeA n A2 c2) (0, 0) _ rfl (setRow_heap _ _ _ _ _ _ (blk_far (p := ⟨w.heap.size + 1, 15, none⟩) HO.out hne _)) Tryz.underlying33 rfl (by kernel_rfl)) rfl ?_
    rw [HX.out]
    exact ⟨A2, c2, by rw [nodeV_withK n _ A2 c2 (List.length_map ..)], ⟨(Kd.N_reads' HN'.out).2.1, Kd.F_mono (Kd.F_step (Kd.N_F HN'.out) (fun z hz _ => (setRow_other _ _ z _ (by omega)).trans (Below.heap_setCell wr ⟨w.heap.size + 1, 15, none⟩ _ z (by show z ≠ w.heap.size + 1; omega)))) (fun z hz => by omega)⟩, rowBelow (below_set HB.out (Nat.le_succ _)) (by omega) _⟩
end Go.Proofs.YthnldbclbfpojaaGreatDoor.Pr
end
