/-
  Lemmas for the law RFollowsRBack.
-/
import Derived.Test.YthnldbclbfpojaaGreatDoorSRFollowsRBack47
import Derived.Test.YthnldbclbfpojaaGreatDoorSRFollowsRBack46
import Derived.Test.YthnldbclbfpojaaGreatDoorSRFollowsRBack11
set_option maxHeartbeats 8000000
set_option maxRecDepth 100000
set_option linter.unusedVariables false
set_option linter.unusedSimpArgs false
section
namespace Go.Proofs.YthnldbclbfpojaaGreatDoor.Pr
open Go.RowKit Go.Proofs.YthnldbclbfpojaaGreatDoorW.PrintWords Go.Proofs.YthnldbclbfpojaaGreatDoorW.PrintLast Go.Proofs.YthnldbclbfpojaaGreatDoorW.PrintMore
theorem back_deep (n m : Nd) (x y z : Int) (A : Option Addr) (c : Nat)  (w : World)
  (HD : Aside0 (∀ W, Below w.heap.size w W → Calls Tryz.prog 9 #[nodeV n A c] W fun e w' => e = .returned (.bool true) ∧ Below W.heap.size W w'))
  (HL : Aside0 (∀ W, Below w.heap.size w W → Calls Tryz.prog 10 #[] W fun e w' => e = .returned (.bool true) ∧ Below W.heap.size W w')) :
  Calls Tryz.prog 8 #[nodeV n A c, .agg (edA x y z)] w fun e w' => e = .returned (.bool true) ∧ Below w.heap.size w w' := by
 have HB := Aside0.mk (bel2 w (.cells (nodeA n A c) 33) (.cells (edA x y z) 47))
 have B2 := Aside0.mk (blk_alloc (newBlk w (.cells (nodeA n A c) 33)) (.cells (edA x y z) 47))
 have B3 := Aside0.mk (newBlk2 w (.cells (nodeA n A c) 33) (.cells (edA x y z) 47))
 go_enter Tryz.func8, Tryz.ntmps8
 go_wp2_with (first
  | ((with_reducible refine gate_dst (N := 16) rfl ?_); refine wpPartLd 16 rfl rfl 33 (.tmp 2) rfl _ rfl _ (nodeA n A c) [] (B2.out) rfl Tryz.underlying33 rfl (by kernel_rfl) ?_)
  | (go_at_call 9; (with_reducible refine (HD.out _ (bel2 w _ _)).mono ?_); rintro e w1 ⟨rfl, hb⟩; have HB_1 := Aside0.mk (below_step HB.out hb); have n_1 := Aside0.mk (blk_below B2.out hb); have e_1 := Aside0.mk (blk_below B3.out hb); clear hb HB B2 B3)
  | (go_at_call 10; (with_reducible refine (HL.out _ HB_1.out).mono ?_); rintro e w2 ⟨rfl, hb⟩; have HB_2 := Aside0.mk (below_step HB_1.out hb); have n_2 := Aside0.mk (blk_below n_1.out hb); have e_2 := Aside0.mk (blk_below e_1.out hb); clear hb HB_1 n_1 e_1))
 go_ret
 exact ⟨rfl, HB_2.out⟩
theorem back_kind (n m : Nd) (x y z : Int) (A : Option Addr) (c : Nat) (hx1 : (x == 1) = false) (hx2 : (x != 1) = true) (hx3 : (x == 3) = false) (hx4 : (x != 3) = true) (w : World)
  (HD : Aside0 (∀ W, Below w.heap.size w W → Calls Tryz.prog 9 #[nodeV n A c] W fun e w' => e = .returned (.bool false) ∧ Below W.heap.size W w'))
  (HL : Aside0 (∀ W, Below w.heap.size w W → Calls Tryz.prog 10 #[] W fun e w' => e = .returned (.bool true) ∧ Below W.heap.size W w')) :
  Calls Tryz.prog 8 #[nodeV n A c, .agg (edA x y z)] w fun e w' => e = .returned (.bool true) ∧ Below w.heap.size w w' := by
 have HB := Aside0.mk (bel2 w (.cells (nodeA n A c) 33) (.cells (edA x y z) 47))
 have B2 := Aside0.mk (blk_alloc (newBlk w (.cells (nodeA n A c) 33)) (.cells (edA x y z) 47))
 have B3 := Aside0.mk (newBlk2 w (.cells (nodeA n A c) 33) (.cells (edA x y z) 47))
 go_enter Tryz.func8, Tryz.ntmps8
 go_wp2_with (first
  | ((with_reducible refine gate_dst (N := 16) rfl ?_); refine wpPartLd 16 rfl rfl 33 (.tmp 2) rfl _ rfl _ (nodeA n A c) [] (B2.out) rfl Tryz.underlying33 rfl (by kernel_rfl) ?_)
  | (go_at_call 9; (with_reducible refine (HD.out _ (bel2 w _ _)).mono ?_); rintro e w1 ⟨rfl, hb⟩; have HB_1 := Aside0.mk (below_step HB.out hb); have n_1 := Aside0.mk (blk_below B2.out hb); have e_1 := Aside0.mk (blk_below B3.out hb); clear hb HB B2 B3; have h_e := fun i => blk_cell e_1.out i)
  | (go_at_call 10; (with_reducible refine (HL.out _ HB_1.out).mono ?_); rintro e w2 ⟨rfl, hb⟩; have HB_2 := Aside0.mk (below_step HB_1.out hb); have n_2 := Aside0.mk (blk_below n_1.out hb); have e_2 := Aside0.mk (blk_below e_1.out hb); clear hb HB_1 n_1 e_1 h_e))
 go_ret
 exact ⟨rfl, HB_2.out⟩
theorem back_no1 (n m : Nd) (x y z : Int) (A : Option Addr) (c : Nat) (q x2 y2 z2 er : Int) (h1 : (x == 1) = true) (h2 : (x != 1) = false) (hq : ¬q = 0) (w : World)
  (HD : Aside0 (∀ W, Below w.heap.size w W → Calls Tryz.prog 9 #[nodeV n A c] W fun e w' => e = .returned (.bool false) ∧ Below W.heap.size W w'))
  (HL : Aside0 (∀ W, Below w.heap.size w W → Calls Tryz.prog 10 #[] W fun e w' => e = .returned (.bool true) ∧ Below W.heap.size W w'))
  (HM : Aside0 (∀ W, Below w.heap.size w W → Calls Tryz.prog 17 #[nodeV n A c, .agg (edA x y z)] W (NodeIntOut m q W)))
  (HK : Aside0 (∀ W, Calls Tryz.prog 25 #[.agg (edA x y z)] W fun e w' => e = .returned (.tuple #[.agg (edA x2 y2 z2), .int .i64 er]) ∧ Below W.heap.size W w')) :
  Calls Tryz.prog 8 #[nodeV n A c, .agg (edA x y z)] w fun e w' => e = .returned (.bool true) ∧ Below w.heap.size w w' := by
 have HB := Aside0.mk (bel2 w (.cells (nodeA n A c) 33) (.cells (edA x y z) 47))
 have B2 := Aside0.mk (blk_alloc (newBlk w (.cells (nodeA n A c) 33)) (.cells (edA x y z) 47))
 have B3 := Aside0.mk (newBlk2 w (.cells (nodeA n A c) 33) (.cells (edA x y z) 47))
 go_enter Tryz.func8, Tryz.ntmps8
 go_wp2_with (first
  | ((with_reducible refine gate_dst (N := 16) rfl ?_); refine wpPartLd 16 rfl rfl 33 (.tmp 2) rfl _ rfl _ (nodeA n A c) [] (B2.out) rfl Tryz.underlying33 rfl (by kernel_rfl) ?_)
  | (go_at_call 9; (with_reducible refine (HD.out _ (bel2 w _ _)).mono ?_); rintro e w1 ⟨rfl, hb⟩; have HB_1 := Aside0.mk (below_step HB.out hb); have n_1 := Aside0.mk (blk_below B2.out hb); have e_1 := Aside0.mk (blk_below B3.out hb); clear hb HB B2 B3; have h_e := fun i => blk_cell e_1.out i)
  | ((with_reducible refine gate_dst (N := 30) rfl ?_); refine wpPartLd 30 rfl rfl 33 (.tmp 2) rfl _ rfl _ (nodeA n A c) [] (n_1.out) rfl Tryz.underlying33 rfl (by kernel_rfl) ?_)
  | ((with_reducible refine gate_dst (N := 31) rfl ?_); refine wpPartLd 31 rfl rfl 47 (.tmp 3) rfl _ rfl _ (edA x y z) [] (e_1.out) rfl Tryz.underlying47 rfl (by kernel_rfl) ?_)
  | (go_at_call 17; (with_reducible refine (HM.out _ HB_1.out).mono ?_); rintro e w2 ⟨A2, c2, rfl, hF, hb⟩; have HB_2 := Aside0.mk (below_step HB_1.out hb); have n_2 := Aside0.mk (blk_below n_1.out hb); have e_2 := Aside0.mk (blk_below e_1.out hb); have HN := Aside0.mk (heldNew hF); clear hF; clear hb HB_1 n_1 e_1 h_e)
  | ((with_reducible refine gate_store (t := 33) (p := 5) (v := .tmp 33) rfl ?_); refine wpRowSt rfl 33 (.tmp 5) (.tmp 33) rfl (w2.heap.size) (nodeA m A2 c2) rfl rfl 33 _ (newBlk w2 _) (by kernel_rfl) rfl rfl ?_; have HB_3 := Aside0.mk (rowBelow (below_alloc HB_2.out (.cells Z16 33)) HB_2.out.size (nodeA m A2 c2)); have n_3 := Aside0.mk (rowNew n_2.out (.cells Z16 33) (nodeA m A2 c2)); have Nn_m := Aside0.mk (Nat.ne_of_lt (blk_lt n_2.out)); have e_3 := Aside0.mk (rowNew e_2.out (.cells Z16 33) (nodeA m A2 c2)); have Ne_m := Aside0.mk (Nat.ne_of_lt (blk_lt e_2.out)); have m_3 := Aside0.mk (setRow_heap _ _ _ (nodeA m A2 c2) _ _ (newBlk w2 (.cells Z16 33))); clear HB_2 n_2 e_2)
  | ((with_reducible refine gate_dst (N := 36) rfl ?_); refine wpPartLd 36 rfl rfl 47 (.tmp 3) rfl _ rfl _ (edA x y z) [] (e_3.out) rfl Tryz.underlying47 rfl (by kernel_rfl) ?_)
  | (go_at_call 25; (with_reducible refine (HK.out _).mono ?_); rintro e w3 ⟨rfl, hb⟩; have HB_4 := Aside0.mk (below_step HB_3.out hb); have n_4 := Aside0.mk (blk_below n_3.out hb); have e_4 := Aside0.mk (blk_below e_3.out hb); have m_4 := Aside0.mk (blk_below m_3.out hb); have HN3 := Aside0.mk (HN.out.below hb); clear HN; clear hb HB_3 n_3 e_3 m_3)
  | ((with_reducible refine gate_store (t := 47) (p := 7) (v := .tmp 38) rfl ?_); refine wpRowSt rfl 47 (.tmp 7) (.tmp 38) rfl (w3.heap.size) (edA x2 y2 z2) rfl rfl 47 _ (newBlk w3 _) (by kernel_rfl) rfl rfl ?_; have HB_5 := Aside0.mk (rowBelow (below_alloc HB_4.out (.cells #[.int .i64 0, .int .i64 0, .int .i64 0] 47)) HB_4.out.size (edA x2 y2 z2)); have n_5 := Aside0.mk (rowNew n_4.out (.cells #[.int .i64 0, .int .i64 0, .int .i64 0] 47) (edA x2 y2 z2)); have Nn_b := Aside0.mk (Nat.ne_of_lt (blk_lt n_4.out)); have e_5 := Aside0.mk (rowNew e_4.out (.cells #[.int .i64 0, .int .i64 0, .int .i64 0] 47) (edA x2 y2 z2)); have Ne_b := Aside0.mk (Nat.ne_of_lt (blk_lt e_4.out)); have m_5 := Aside0.mk (rowNew m_4.out (.cells #[.int .i64 0, .int .i64 0, .int .i64 0] 47) (edA x2 y2 z2)); have Nm_b := Aside0.mk (Nat.ne_of_lt (blk_lt m_4.out)); have b_5 := Aside0.mk (setRow_heap _ _ _ (edA x2 y2 z2) _ _ (newBlk w3 (.cells #[.int .i64 0, .int .i64 0, .int .i64 0] 47))); clear HB_4 n_4 e_4 m_4)
  | (go_at_call 10; (with_reducible refine (HL.out _ HB_5.out).mono ?_); rintro e w4 ⟨rfl, hb⟩; have HB_6 := Aside0.mk (below_step HB_5.out hb); have n_6 := Aside0.mk (blk_below n_5.out hb); have e_6 := Aside0.mk (blk_below e_5.out hb); have m_6 := Aside0.mk (blk_below m_5.out hb); have b_6 := Aside0.mk (blk_below b_5.out hb); clear hb HB_5 n_5 e_5 m_5 b_5))
 go_ret
 exact ⟨rfl, HB_6.out⟩
theorem back_no3 (n m : Nd) (x y z : Int) (A : Option Addr) (c : Nat) (q x2 y2 z2 er : Int) (h1 : (x == 1) = false) (h2 : (x != 1) = true) (h3 : (x == 3) = true) (h4 : (x != 3) = false) (hq : ¬q = 0) (w : World)
  (HD : Aside0 (∀ W, Below w.heap.size w W → Calls Tryz.prog 9 #[nodeV n A c] W fun e w' => e = .returned (.bool false) ∧ Below W.heap.size W w'))
  (HL : Aside0 (∀ W, Below w.heap.size w W → Calls Tryz.prog 10 #[] W fun e w' => e = .returned (.bool true) ∧ Below W.heap.size W w'))
  (HM : Aside0 (∀ W, Below w.heap.size w W → Calls Tryz.prog 17 #[nodeV n A c, .agg (edA x y z)] W (NodeIntOut m q W)))
  (HK : Aside0 (∀ W, Calls Tryz.prog 25 #[.agg (edA x y z)] W fun e w' => e = .returned (.tuple #[.agg (edA x2 y2 z2), .int .i64 er]) ∧ Below W.heap.size W w')) :
  Calls Tryz.prog 8 #[nodeV n A c, .agg (edA x y z)] w fun e w' => e = .returned (.bool true) ∧ Below w.heap.size w w' := by
 have HB := Aside0.mk (bel2 w (.cells (nodeA n A c) 33) (.cells (edA x y z) 47))
 have B2 := Aside0.mk (blk_alloc (newBlk w (.cells (nodeA n A c) 33)) (.cells (edA x y z) 47))
 have B3 := Aside0.mk (newBlk2 w (.cells (nodeA n A c) 33) (.cells (edA x y z) 47))
 go_enter Tryz.func8, Tryz.ntmps8
 go_wp2_with (first
  | ((with_reducible refine gate_dst (N := 16) rfl ?_); refine wpPartLd 16 rfl rfl 33 (.tmp 2) rfl _ rfl _ (nodeA n A c) [] (B2.out) rfl Tryz.underlying33 rfl (by kernel_rfl) ?_)
  | (go_at_call 9; (with_reducible refine (HD.out _ (bel2 w _ _)).mono ?_); rintro e w1 ⟨rfl, hb⟩; have HB_1 := Aside0.mk (below_step HB.out hb); have n_1 := Aside0.mk (blk_below B2.out hb); have e_1 := Aside0.mk (blk_below B3.out hb); clear hb HB B2 B3; have h_e := fun i => blk_cell e_1.out i)
  | ((with_reducible refine gate_dst (N := 30) rfl ?_); refine wpPartLd 30 rfl rfl 33 (.tmp 2) rfl _ rfl _ (nodeA n A c) [] (n_1.out) rfl Tryz.underlying33 rfl (by kernel_rfl) ?_)
  | ((with_reducible refine gate_dst (N := 31) rfl ?_); refine wpPartLd 31 rfl rfl 47 (.tmp 3) rfl _ rfl _ (edA x y z) [] (e_1.out) rfl Tryz.underlying47 rfl (by kernel_rfl) ?_)
  | (go_at_call 17; (with_reducible refine (HM.out _ HB_1.out).mono ?_); rintro e w2 ⟨A2, c2, rfl, hF, hb⟩; have HB_2 := Aside0.mk (below_step HB_1.out hb); have n_2 := Aside0.mk (blk_below n_1.out hb); have e_2 := Aside0.mk (blk_below e_1.out hb); have HN := Aside0.mk (heldNew hF); clear hF; clear hb HB_1 n_1 e_1 h_e)
  | ((with_reducible refine gate_store (t := 33) (p := 5) (v := .tmp 33) rfl ?_); refine wpRowSt rfl 33 (.tmp 5) (.tmp 33) rfl (w2.heap.size) (nodeA m A2 c2) rfl rfl 33 _ (newBlk w2 _) (by kernel_rfl) rfl rfl ?_; have HB_3 := Aside0.mk (rowBelow (below_alloc HB_2.out (.cells Z16 33)) HB_2.out.size (nodeA m A2 c2)); have n_3 := Aside0.mk (rowNew n_2.out (.cells Z16 33) (nodeA m A2 c2)); have Nn_m := Aside0.mk (Nat.ne_of_lt (blk_lt n_2.out)); have e_3 := Aside0.mk (rowNew e_2.out (.cells Z16 33) (nodeA m A2 c2)); have Ne_m := Aside0.mk (Nat.ne_of_lt (blk_lt e_2.out)); have m_3 := Aside0.mk (setRow_heap _ _ _ (nodeA m A2 c2) _ _ (newBlk w2 (.cells Z16 33))); clear HB_2 n_2 e_2)
  | ((with_reducible refine gate_dst (N := 36) rfl ?_); refine wpPartLd 36 rfl rfl 47 (.tmp 3) rfl _ rfl _ (edA x y z) [] (e_3.out) rfl Tryz.underlying47 rfl (by kernel_rfl) ?_)
  | (go_at_call 25; (with_reducible refine (HK.out _).mono ?_); rintro e w3 ⟨rfl, hb⟩; have HB_4 := Aside0.mk (below_step HB_3.out hb); have n_4 := Aside0.mk (blk_below n_3.out hb); have e_4 := Aside0.mk (blk_below e_3.out hb); have m_4 := Aside0.mk (blk_below m_3.out hb); have HN3 := Aside0.mk (HN.out.below hb); clear HN; clear hb HB_3 n_3 e_3 m_3)
  | ((with_reducible refine gate_store (t := 47) (p := 7) (v := .tmp 38) rfl ?_); refine wpRowSt rfl 47 (.tmp 7) (.tmp 38) rfl (w3.heap.size) (edA x2 y2 z2) rfl rfl 47 _ (newBlk w3 _) (by kernel_rfl) rfl rfl ?_; have HB_5 := Aside0.mk (rowBelow (below_alloc HB_4.out (.cells #[.int .i64 0, .int .i64 0, .int .i64 0] 47)) HB_4.out.size (edA x2 y2 z2)); have n_5 := Aside0.mk (rowNew n_4.out (.cells #[.int .i64 0, .int .i64 0, .int .i64 0] 47) (edA x2 y2 z2)); have Nn_b := Aside0.mk (Nat.ne_of_lt (blk_lt n_4.out)); have e_5 := Aside0.mk (rowNew e_4.out (.cells #[.int .i64 0, .int .i64 0, .int .i64 0] 47) (edA x2 y2 z2)); have Ne_b := Aside0.mk (Nat.ne_of_lt (blk_lt e_4.out)); have m_5 := Aside0.mk (rowNew m_4.out (.cells #[.int .i64 0, .int .i64 0, .int .i64 0] 47) (edA x2 y2 z2)); have Nm_b := Aside0.mk (Nat.ne_of_lt (blk_lt m_4.out)); have b_5 := Aside0.mk (setRow_heap _ _ _ (edA x2 y2 z2) _ _ (newBlk w3 (.cells #[.int .i64 0, .int .i64 0, .int .i64 0] 47))); clear HB_4 n_4 e_4 m_4)
  | (go_at_call 10; (with_reducible refine (HL.out _ HB_5.out).mono ?_); rintro e w4 ⟨rfl, hb⟩; have HB_6 := Aside0.mk (below_step HB_5.out hb); have n_6 := Aside0.mk (blk_below n_5.out hb); have e_6 := Aside0.mk (blk_below e_5.out hb); have m_6 := Aside0.mk (blk_below m_5.out hb); have b_6 := Aside0.mk (blk_below b_5.out hb); clear hb HB_5 n_5 e_5 m_5 b_5))
 go_ret
 exact ⟨rfl, HB_6.out⟩
def back11.T11 : Bool × List (List Nat × List Nat) := (true, [([], []), ([], []), ([], []), ([1, 2], [1, 2]), ([3], [3]), ([0, 4], [0, 4]), ([5], [5]), ([6], [6]), ([6], [6]), ([7, 5, 0, 1, 2, 3, 4, 5, 6, 7], [7]), ([8, 9, 0, 1, 2, 3, 4, 5, 6, 7, 8, 9], [8])])
def back11.B11 : List Nat := [0, 0, 0, 6, 14, 31, 63, 127, 127, 255, 1023]
theorem back11.tab11 : rtab .any (opsOf Tryz.f8 11) = back11.T11 := by kernel_rfl
theorem back11.bits11 : waitsOk back11.T11.2 back11.B11 = true := by kernel_rfl
theorem take_clip {P : S_R → Prop} {l : List S_R} {i : Nat} (h : i < l.length) (h1 : ∀ v ∈ l.take i, P v) (h2 : P l[i]) : ∀ v ∈ l.take (i + 1), P v := by
 intro v hv
 rw [List.take_succ_eq_append_getElem h] at hv
 rcases List.mem_append.1 hv with hv | hv
 ·exact h1 v hv
 ·rw [List.mem_singleton.1 hv]; exact h2
theorem back_go1 (n m : Nd) (x y z : Int) (A : Option Addr) (c : Nat) (x2 y2 z2 : Int) (l1 : List S_R) (HN1 : Aside0 (l1.length ≤ 4096)) (h1 : (x == 1) = true) (h2 : (x != 1) = false) (w : World)
  (HKn : Aside0 (KidsC w A c n.f5))
  (HD : Aside0 (∀ W, Below w.heap.size w W → Calls Tryz.prog 9 #[nodeV n A c] W fun e w' => e = .returned (.bool false) ∧ Below W.heap.size W w'))
  (HL : Aside0 (∀ W, Below w.heap.size w W → Calls Tryz.prog 10 #[] W fun e w' => e = .returned (.bool true) ∧ Below W.heap.size W w'))
  (HM : Aside0 (∀ W, Below w.heap.size w W → Calls Tryz.prog 17 #[nodeV n A c, .agg (edA x y z)] W (NodeIntOut m 0 W)))
  (HK : Aside0 (∀ W, Calls Tryz.prog 25 #[.agg (edA x y z)] W fun e w' => e = .returned (.tuple #[.agg (edA x2 y2 z2), .int .i64 0]) ∧ Below W.heap.size W w'))
  (HR1 : Aside0 (∀ W, Below w.heap.size w W → Calls Tryz.prog 23 #[nodeV n A c] W fun e w' => (∃ A_ c_, e = .returned (.tuple #[.slice A_ l1.length c_, .int .i64 0]) ∧ l1.length ≤ c_ ∧ Kd.C k64 w' A_ l1.length l1) ∧ Below W.heap.size W w'))
  (HCL : Aside0 (∀ (v : S_R) W, v ∈ l1 → Calls Tryz.prog 26 #[.agg (edA x y z), .agg #[.int .i64 v.f0, .int .i64 v.f1, .int .i64 v.f2, .int .i64 v.f3]] W fun e w' => e = .returned (.tuple #[.bool (stepF x y z (farS x v) == 2), .int .i64 0]) ∧ Below W.heap.size W w'))
  (HM2 : Aside0 ((∀ v ∈ l1, ¬stepF x y z (farS x v) = 2) → ∀ W A_ c_, Below w.heap.size w W → KidsC W A_ c_ m.f5 → Calls Tryz.prog 17 #[nodeV m A_ c_, .agg (edA x2 y2 z2)] W (NodeIntOut n 0 W)))
  (HSA : Aside0 (∀ W A_ c_ B_ e_, KidsC W A_ c_ n.f5 → KidsC W B_ e_ n.f5 → Calls Tryz.prog 14 #[nodeV n A_ c_, nodeV n B_ e_] W fun e w' => e = .returned (.bool true) ∧ Below W.heap.size W w')) :
  Calls Tryz.prog 8 #[nodeV n A c, .agg (edA x y z)] w fun e w' => e = .returned (.bool true) ∧ Below w.heap.size w w' := by
 have HB := Aside0.mk (bel2 w (.cells (nodeA n A c) 33) (.cells (edA x y z) 47))
 have B2 := Aside0.mk (blk_alloc (newBlk w (.cells (nodeA n A c) 33)) (.cells (edA x y z) 47))
 have B3 := Aside0.mk (newBlk2 w (.cells (nodeA n A c) 33) (.cells (edA x y z) 47))
 go_enter Tryz.func8, Tryz.ntmps8
 go_wp2_with (first
  | ((with_reducible refine gate_dst (N := 16) rfl ?_); refine wpPartLd 16 rfl rfl 33 (.tmp 2) rfl _ rfl _ (nodeA n A c) [] (B2.out) rfl Tryz.underlying33 rfl (by kernel_rfl) ?_)
  | (go_at_call 9; (with_reducible refine (HD.out _ (bel2 w _ _)).mono ?_); rintro e w1 ⟨rfl, hb⟩; have HB_1 := Aside0.mk (below_step HB.out hb); have n_1 := Aside0.mk (blk_below B2.out hb); have e_1 := Aside0.mk (blk_below B3.out hb); clear hb HB B2 B3; have h_e := fun i => blk_cell e_1.out i)
  | ((with_reducible refine gate_dst (N := 30) rfl ?_); refine wpPartLd 30 rfl rfl 33 (.tmp 2) rfl _ rfl _ (nodeA n A c) [] (n_1.out) rfl Tryz.underlying33 rfl (by kernel_rfl) ?_)
  | ((with_reducible refine gate_dst (N := 31) rfl ?_); refine wpPartLd 31 rfl rfl 47 (.tmp 3) rfl _ rfl _ (edA x y z) [] (e_1.out) rfl Tryz.underlying47 rfl (by kernel_rfl) ?_)
  | (go_at_call 17; (with_reducible refine (HM.out _ HB_1.out).mono ?_); rintro e w2 ⟨A2, c2, rfl, hF, hb⟩; have HB_2 := Aside0.mk (below_step HB_1.out hb); have n_2 := Aside0.mk (blk_below n_1.out hb); have e_2 := Aside0.mk (blk_below e_1.out hb); have HN := Aside0.mk (heldNew hF); clear hF; clear hb HB_1 n_1 e_1 h_e)
  | ((with_reducible refine gate_store (t := 33) (p := 5) (v := .tmp 33) rfl ?_); refine wpRowSt rfl 33 (.tmp 5) (.tmp 33) rfl (w2.heap.size) (nodeA m A2 c2) rfl rfl 33 _ (newBlk w2 _) (by kernel_rfl) rfl rfl ?_; have HB_3 := Aside0.mk (rowBelow (below_alloc HB_2.out (.cells Z16 33)) HB_2.out.size (nodeA m A2 c2)); have n_3 := Aside0.mk (rowNew n_2.out (.cells Z16 33) (nodeA m A2 c2)); have Nn_m := Aside0.mk (Nat.ne_of_lt (blk_lt n_2.out)); have e_3 := Aside0.mk (rowNew e_2.out (.cells Z16 33) (nodeA m A2 c2)); have Ne_m := Aside0.mk (Nat.ne_of_lt (blk_lt e_2.out)); have m_3 := Aside0.mk (setRow_heap _ _ _ (nodeA m A2 c2) _ _ (newBlk w2 (.cells Z16 33))); clear HB_2 n_2 e_2)
  | ((with_reducible refine gate_dst (N := 36) rfl ?_); refine wpPartLd 36 rfl rfl 47 (.tmp 3) rfl _ rfl _ (edA x y z) [] (e_3.out) rfl Tryz.underlying47 rfl (by kernel_rfl) ?_)
  | (go_at_call 25; (with_reducible refine (HK.out _).mono ?_); rintro e w3 ⟨rfl, hb⟩; have HB_4 := Aside0.mk (below_step HB_3.out hb); have n_4 := Aside0.mk (blk_below n_3.out hb); have e_4 := Aside0.mk (blk_below e_3.out hb); have m_4 := Aside0.mk (blk_below m_3.out hb); have HN3 := Aside0.mk (HN.out.below hb); clear HN; clear hb HB_3 n_3 e_3 m_3)
  | ((with_reducible refine gate_store (t := 47) (p := 7) (v := .tmp 38) rfl ?_); refine wpRowSt rfl 47 (.tmp 7) (.tmp 38) rfl (w3.heap.size) (edA x2 y2 z2) rfl rfl 47 _ (newBlk w3 _) (by kernel_rfl) rfl rfl ?_; have HB_5 := Aside0.mk (rowBelow (below_alloc HB_4.out (.cells #[.int .i64 0, .int .i64 0, .int .i64 0] 47)) HB_4.out.size (edA x2 y2 z2)); have n_5 := Aside0.mk (rowNew n_4.out (.cells #[.int .i64 0, .int .i64 0, .int .i64 0] 47) (edA x2 y2 z2)); have Nn_b := Aside0.mk (Nat.ne_of_lt (blk_lt n_4.out)); have e_5 := Aside0.mk (rowNew e_4.out (.cells #[.int .i64 0, .int .i64 0, .int .i64 0] 47) (edA x2 y2 z2)); have Ne_b := Aside0.mk (Nat.ne_of_lt (blk_lt e_4.out)); have m_5 := Aside0.mk (rowNew m_4.out (.cells #[.int .i64 0, .int .i64 0, .int .i64 0] 47) (edA x2 y2 z2)); have Nm_b := Aside0.mk (Nat.ne_of_lt (blk_lt m_4.out)); have b_5 := Aside0.mk (setRow_heap _ _ _ (edA x2 y2 z2) _ _ (newBlk w3 (.cells #[.int .i64 0, .int .i64 0, .int .i64 0] 47))); clear HB_4 n_4 e_4 m_4)
  | ((with_reducible refine gate_dst (N := 48) rfl ?_); refine wpPartLd 48 rfl rfl 33 (.tmp 2) rfl _ rfl _ (nodeA n A c) [] (n_5.out) rfl Tryz.underlying33 rfl (by kernel_rfl) ?_)
  | (go_at_call 23; (with_reducible refine (HR1.out _ HB_5.out).mono ?_); rintro e w4 ⟨⟨A5, c5, rfl, hl5, hC5⟩, hb⟩; have HB_6 := Aside0.mk (below_step HB_5.out hb); have n_6 := Aside0.mk (blk_below n_5.out hb); have e_6 := Aside0.mk (blk_below e_5.out hb); have m_6 := Aside0.mk (blk_below m_5.out hb); have b_6 := Aside0.mk (blk_below b_5.out hb); have HN4 := Aside0.mk ((HN3.out.store (edA x2 y2 z2) (.cells #[.int .i64 0, .int .i64 0, .int .i64 0] 47)).below hb); clear HN3; have HC5 := Aside0.mk hC5; have HL5 := Aside0.mk hl5; clear hC5 hl5; clear hb HB_5 n_5 e_5 m_5 b_5))
 go_loopg [11, 12, 13] l1.length (fun kq v11 v12 v13 w' => ∃ (i : Nat), v11 = .int .i64 (i : Int) ∧ Aside0 (∀ v ∈ l1.take i, ¬stepF x y z (farS x v) = 2) ∧ Aside0 (i + kq = l1.length) ∧ Aside0 (Kd.C k64 w' A5 l1.length l1) ∧ Aside0 (w'.heap[w.heap.size]? = some (.cells (nodeA n A c) 33 (0, 0))) ∧ Aside0 (w'.heap[w.heap.size + 1]? = some (.cells (edA x y z) 47 (0, 0))) ∧ Aside0 (Held w' w2.heap.size m A2 c2) ∧ Aside0 (w'.heap[w3.heap.size]? = some (.cells (edA x2 y2 z2) 47 (0, 0))) ∧ Aside0 (Below w.heap.size w w'))
 case atStart => exact ⟨0, (by simp), ⟨by simp⟩, ⟨by omega⟩, HC5, n_6, e_6, HN4, b_6, HB_6⟩
 case round =>
  obtain ⟨i, rfl, HCT, HK1, D5, GN, GE, GM, GBk, GB⟩ := hrel
  cases gk with
  | zero =>
   have e0 : i = l1.length := by have := HK1.out; omega
   have c4 : decide ((i : Int) < (l1.length : Int)) = false := decide_eq_false (by omega)
   have hct := HCT.out
   rw [e0, List.take_length] at hct
   have HM3 := Aside0.mk (HM2.out hct)
   have G1 := Aside0.mk GM.out.1
   clear hct
   go_wp2_with (first
    | ((with_reducible refine gate_dst (N := 78) rfl ?_); refine wpPartLd 78 rfl rfl 33 (.tmp 5) rfl _ rfl _ (nodeA m A2 c2) [] (G1.out) rfl Tryz.underlying33 rfl (by kernel_rfl) ?_)
    | ((with_reducible refine gate_dst (N := 79) rfl ?_); refine wpPartLd 79 rfl rfl 47 (.tmp 7) rfl _ rfl _ (edA x2 y2 z2) [] (GBk.out) rfl Tryz.underlying47 rfl (by kernel_rfl) ?_)
    | (go_at_call 17; (with_reducible refine (HM3.out _ _ _ GB.out GM.out.now).mono ?_); rintro e w7 ⟨A7, c7, rfl, hF, hb⟩; have HB_1 := Aside0.mk (below_step GB.out hb); have n_1 := Aside0.mk (blk_below GN.out hb); have m_1 := Aside0.mk (blk_below G1.out hb); have b_1 := Aside0.mk (blk_below GBk.out hb); have HH := Aside0.mk (heldNew hF); clear hF; clear hb GB GN G1 GBk)
    | ((with_reducible refine gate_store (t := 33) (p := 14) (v := .tmp 81) rfl ?_); refine wpRowSt rfl 33 (.tmp 14) (.tmp 81) rfl (w7.heap.size) (nodeA n A7 c7) rfl rfl 33 _ (newBlk w7 _) (by kernel_rfl) rfl rfl ?_; have HB_2 := Aside0.mk (rowBelow (below_alloc HB_1.out (.cells Z16 33)) HB_1.out.size (nodeA n A7 c7)); have n_2 := Aside0.mk (rowNew n_1.out (.cells Z16 33) (nodeA n A7 c7)); have Nn_k := Aside0.mk (Nat.ne_of_lt (blk_lt n_1.out)); have m_2 := Aside0.mk (rowNew m_1.out (.cells Z16 33) (nodeA n A7 c7)); have Nm_k := Aside0.mk (Nat.ne_of_lt (blk_lt m_1.out)); have b_2 := Aside0.mk (rowNew b_1.out (.cells Z16 33) (nodeA n A7 c7)); have Nb_k := Aside0.mk (Nat.ne_of_lt (blk_lt b_1.out)); have k_2 := Aside0.mk (setRow_heap _ _ _ (nodeA n A7 c7) _ _ (newBlk w7 (.cells Z16 33))); clear HB_1 n_1 m_1 b_1)
    | ((with_reducible refine gate_dst (N := 86) rfl ?_); (refine gate_guard (by rfl) ?_; dsimp only); refine wpPartLd 86 rfl rfl 33 (.tmp 14) rfl _ rfl _ (nodeA n A7 c7) [] (k_2.out) rfl Tryz.underlying33 rfl (by kernel_rfl) ?_)
    | ((with_reducible refine gate_dst (N := 87) rfl ?_); (refine gate_guard (by rfl) ?_; dsimp only); refine wpPartLd 87 rfl rfl 33 (.tmp 2) rfl _ rfl _ (nodeA n A c) [] (n_2.out) rfl Tryz.underlying33 rfl (by kernel_rfl) ?_)
    | (go_at_call 14; (with_reducible refine (HSA.out _ _ _ _ _ HH.out.now (HKn.out.below HB_2.out)).mono ?_); rintro e w8 ⟨rfl, hb⟩; have HB_3 := Aside0.mk (below_step HB_2.out hb); have n_3 := Aside0.mk (blk_below n_2.out hb); have m_3 := Aside0.mk (blk_below m_2.out hb); have b_3 := Aside0.mk (blk_below b_2.out hb); have k_3 := Aside0.mk (blk_below k_2.out hb); clear hb HB_2 n_2 m_2 b_2 k_2)
    | (go_at_call 10; (with_reducible refine (HL.out _ HB_3.out).mono ?_); rintro e w9 ⟨rfl, hb⟩; have HB_4 := Aside0.mk (below_step HB_3.out hb); have n_4 := Aside0.mk (blk_below n_3.out hb); have m_4 := Aside0.mk (blk_below m_3.out hb); have b_4 := Aside0.mk (blk_below b_3.out hb); have k_4 := Aside0.mk (blk_below k_3.out hb); clear hb HB_3 n_3 m_3 b_3 k_3))
   go_ret
   exact ⟨rfl, HB_4.out⟩
  | succ k1 =>
   have e1 : i < l1.length := by have := HK1.out; omega
   have c4 : decide ((i : Int) < (l1.length : Int)) = true := decide_eq_true (by omega)
   have hrd : rd_T64 l1 (i : Int) = l1[i] := by
    unfold rd_T64
    rw [Int.toNat_natCast, List.getD_eq_getElem?_getD, List.getElem?_eq_getElem e1]; rfl
   obtain ⟨ad, hA5, v0, v1, v2, v3⟩ := at_T64 D5.out (i : Int) (by omega) (by omega)
   subst hA5
   rw [hrd] at v0 v1 v2 v3
   have a0 : wr.cell? ⟨w.heap.size + 1, 0, none⟩ = some (.int .i64 x) := (blk_cell GE.out 0).trans rfl
   have a1 : wr.cell? ⟨w.heap.size + 1, 1, none⟩ = some (.int .i64 y) := (blk_cell GE.out 1).trans rfl
   have a2 : wr.cell? ⟨w.heap.size + 1, 2, none⟩ = some (.int .i64 z) := (blk_cell GE.out 2).trans rfl
   have HCi := Aside0.mk fun W => HCL.out l1[i] W (List.getElem_mem e1)
   by_cases hz : stepF x y z (farS x l1[i]) = 2
   ·rw [show (stepF x y z (farS x l1[i]) == 2) = true from by simpa using hz] at HCi
    go_wp2
    refine start_ (n := 11) (S := fun w' => w'.cell? (ad.add (i * 4)) = some (.int .i64 (l1[i]).f0) ∧ w'.cell? ⟨(ad.add (i * 4)).block, (ad.add (i * 4)).off + 1, none⟩ = some (.int .i64 (l1[i]).f1) ∧ w'.cell? ⟨(ad.add (i * 4)).block, (ad.add (i * 4)).off + 2, none⟩ = some (.int .i64 (l1[i]).f2) ∧ w'.cell? ⟨(ad.add (i * 4)).block, (ad.add (i * 4)).off + 3, none⟩ = some (.int .i64 (l1[i]).f3) ∧ w'.cell? ⟨w.heap.size + 1, 0, none⟩ = some (.int .i64 x) ∧ w'.cell? ⟨w.heap.size + 1, 1, none⟩ = some (.int .i64 y) ∧ w'.cell? ⟨w.heap.size + 1, 2, none⟩ = some (.int .i64 z) ∧ Below wr.heap.size wr w') (ds := []) (Array.replicate 11 false) (by kernel_rfl) rfl rfl ⟨v0, v1, v2, v3, a0, a1, a2, below_drew1 (Below.refl _ _)⟩ (fun hHeld => ?_)
    refine with_tabW back11.tab11 back11.bits11 (fun HT_ HW_ => ?_)
    refine pz 1 60 HT_ ?_; refine pz 2 61 HT_ ?_; refine pz 3 62 HT_ ?_
    refine tz 0 59 HT_ HW_ (hr := (by rintro w' ⟨s1, s2, s3, s4, s5, s6, s7, s8⟩; go_simp; with_reducible rfl)) (hS := hHeld) (h := ?_)
    refine tz 4 63 HT_ HW_ (hr := (by rintro w' ⟨s1, s2, s3, s4, s5, s6, s7, s8⟩; go_simp; with_reducible rfl)) (hS := hHeld) (h := ?_)
    refine oneI 5 (some 64) HT_ rfl rfl (by kernel_rfl) (by decide) (fun K hK => ?_)
    refine goes_ Tryz.func26 (by kernel_rfl) rfl #[.agg #[.int .i64 x, .int .i64 y, .int .i64 z], .agg #[.int .i64 (l1[i]).f0, .int .i64 (l1[i]).f1, .int .i64 (l1[i]).f2, .int .i64 (l1[i]).f3]] (by (try simp only [List.map_toArray, List.map_cons, List.map_nil]); first | done | rfl) rfl rfl (by first | rfl | ((try simp only [List.map_toArray, List.map_cons, List.map_nil]); first | done | rfl)) ?_
    with_reducible refine (HCi.out _).mono ?_
    rintro e w9 ⟨rfl, hb⟩
    refine ⟨_, rfl, ?_⟩
    refine hK.out _ _ ⟨(hb.cell (World.block_lt_of_cell? _ _ hHeld.1)).trans hHeld.1, (hb.cell (World.block_lt_of_cell? _ _ hHeld.2.1)).trans hHeld.2.1, (hb.cell (World.block_lt_of_cell? _ _ hHeld.2.2.1)).trans hHeld.2.2.1, (hb.cell (World.block_lt_of_cell? _ _ hHeld.2.2.2.1)).trans hHeld.2.2.2.1, (hb.cell (World.block_lt_of_cell? _ _ hHeld.2.2.2.2.1)).trans hHeld.2.2.2.2.1, (hb.cell (World.block_lt_of_cell? _ _ hHeld.2.2.2.2.2.1)).trans hHeld.2.2.2.2.2.1, (hb.cell (World.block_lt_of_cell? _ _ hHeld.2.2.2.2.2.2.1)).trans hHeld.2.2.2.2.2.2.1, below_step hHeld.2.2.2.2.2.2.2 hb⟩ (fun hHeld => ?_)
    clear hK K
    refine nz 64 ?_
    refine pz 6 58 HT_ ?_; refine pz 7 65 HT_ ?_; refine pz 8 66 HT_ ?_; refine pz 9 12 HT_ ?_; refine pz 10 13 HT_ ?_
    refine done_ (done_of HT_.out (by kernel_rfl)) ?_
    have HQ := Aside0.mk hHeld.2.2.2.2.2.2.2
    clear hHeld
    go_wp2_with (first
     | (go_at_call 10; (with_reducible refine (HL.out _ (below_step GB.out HQ.out)).mono ?_); rintro e w8 ⟨rfl, hb⟩; have HE := Aside0.mk (below_step (below_step GB.out HQ.out) hb); clear hb))
    go_ret
    exact ⟨rfl, HE.out⟩
   ·rw [show (stepF x y z (farS x l1[i]) == 2) = false from by simpa using hz] at HCi
    go_wp2
    refine start_ (n := 11) (S := fun w' => w'.cell? (ad.add (i * 4)) = some (.int .i64 (l1[i]).f0) ∧ w'.cell? ⟨(ad.add (i * 4)).block, (ad.add (i * 4)).off + 1, none⟩ = some (.int .i64 (l1[i]).f1) ∧ w'.cell? ⟨(ad.add (i * 4)).block, (ad.add (i * 4)).off + 2, none⟩ = some (.int .i64 (l1[i]).f2) ∧ w'.cell? ⟨(ad.add (i * 4)).block, (ad.add (i * 4)).off + 3, none⟩ = some (.int .i64 (l1[i]).f3) ∧ w'.cell? ⟨w.heap.size + 1, 0, none⟩ = some (.int .i64 x) ∧ w'.cell? ⟨w.heap.size + 1, 1, none⟩ = some (.int .i64 y) ∧ w'.cell? ⟨w.heap.size + 1, 2, none⟩ = some (.int .i64 z) ∧ Below wr.heap.size wr w') (ds := []) (Array.replicate 11 false) (by kernel_rfl) rfl rfl ⟨v0, v1, v2, v3, a0, a1, a2, below_drew1 (Below.refl _ _)⟩ (fun hHeld => ?_)
    refine with_tabW back11.tab11 back11.bits11 (fun HT_ HW_ => ?_)
    refine pz 1 60 HT_ ?_; refine pz 2 61 HT_ ?_; refine pz 3 62 HT_ ?_
    refine tz 0 59 HT_ HW_ (hr := (by rintro w' ⟨s1, s2, s3, s4, s5, s6, s7, s8⟩; go_simp; with_reducible rfl)) (hS := hHeld) (h := ?_)
    refine tz 4 63 HT_ HW_ (hr := (by rintro w' ⟨s1, s2, s3, s4, s5, s6, s7, s8⟩; go_simp; with_reducible rfl)) (hS := hHeld) (h := ?_)
    refine oneI 5 (some 64) HT_ rfl rfl (by kernel_rfl) (by decide) (fun K hK => ?_)
    refine goes_ Tryz.func26 (by kernel_rfl) rfl #[.agg #[.int .i64 x, .int .i64 y, .int .i64 z], .agg #[.int .i64 (l1[i]).f0, .int .i64 (l1[i]).f1, .int .i64 (l1[i]).f2, .int .i64 (l1[i]).f3]] (by (try simp only [List.map_toArray, List.map_cons, List.map_nil]); first | done | rfl) rfl rfl (by first | rfl | ((try simp only [List.map_toArray, List.map_cons, List.map_nil]); first | done | rfl)) ?_
    with_reducible refine (HCi.out _).mono ?_
    rintro e w9 ⟨rfl, hb⟩
    refine ⟨_, rfl, ?_⟩
    refine hK.out _ _ ⟨(hb.cell (World.block_lt_of_cell? _ _ hHeld.1)).trans hHeld.1, (hb.cell (World.block_lt_of_cell? _ _ hHeld.2.1)).trans hHeld.2.1, (hb.cell (World.block_lt_of_cell? _ _ hHeld.2.2.1)).trans hHeld.2.2.1, (hb.cell (World.block_lt_of_cell? _ _ hHeld.2.2.2.1)).trans hHeld.2.2.2.1, (hb.cell (World.block_lt_of_cell? _ _ hHeld.2.2.2.2.1)).trans hHeld.2.2.2.2.1, (hb.cell (World.block_lt_of_cell? _ _ hHeld.2.2.2.2.2.1)).trans hHeld.2.2.2.2.2.1, (hb.cell (World.block_lt_of_cell? _ _ hHeld.2.2.2.2.2.2.1)).trans hHeld.2.2.2.2.2.2.1, below_step hHeld.2.2.2.2.2.2.2 hb⟩ (fun hHeld => ?_)
    clear hK K
    refine nz 64 ?_
    refine pz 6 58 HT_ ?_; refine pz 7 65 HT_ ?_; refine pz 8 66 HT_ ?_; refine pz 9 12 HT_ ?_; refine pz 10 13 HT_ ?_
    refine done_ (done_of HT_.out (by kernel_rfl)) ?_
    have HQ := Aside0.mk hHeld.2.2.2.2.2.2.2
    clear hHeld
    go_wp2
    go_roundg k1
    case measure => omega
    case rel => exact ⟨i + 1, by rw [show wrap64 ((i : Int) + 1) = ((i + 1 : Nat) : Int) by have := HN1.out; unfold wrap64; omega], ⟨take_clip e1 HCT.out hz⟩, ⟨by have := HK1.out; omega⟩, ⟨Kd.C_below D5.out HQ.out⟩, ⟨blk_below GN.out HQ.out⟩, ⟨blk_below GE.out HQ.out⟩, ⟨GM.out.below HQ.out⟩, ⟨blk_below GBk.out HQ.out⟩, ⟨below_step GB.out HQ.out⟩⟩
theorem back_go3 (n m : Nd) (x y z : Int) (A : Option Addr) (c : Nat) (x2 y2 z2 : Int) (l1 : List S_R) (HN1 : Aside0 (l1.length ≤ 4096)) (h1 : (x == 1) = false) (h2 : (x != 1) = true) (h3 : (x == 3) = true) (h4 : (x != 3) = false) (w : World)
  (HKn : Aside0 (KidsC w A c n.f5))
  (HD : Aside0 (∀ W, Below w.heap.size w W → Calls Tryz.prog 9 #[nodeV n A c] W fun e w' => e = .returned (.bool false) ∧ Below W.heap.size W w'))
  (HL : Aside0 (∀ W, Below w.heap.size w W → Calls Tryz.prog 10 #[] W fun e w' => e = .returned (.bool true) ∧ Below W.heap.size W w'))
  (HM : Aside0 (∀ W, Below w.heap.size w W → Calls Tryz.prog 17 #[nodeV n A c, .agg (edA x y z)] W (NodeIntOut m 0 W)))
  (HK : Aside0 (∀ W, Calls Tryz.prog 25 #[.agg (edA x y z)] W fun e w' => e = .returned (.tuple #[.agg (edA x2 y2 z2), .int .i64 0]) ∧ Below W.heap.size W w'))
  (HR1 : Aside0 (∀ W, Below w.heap.size w W → Calls Tryz.prog 23 #[nodeV n A c] W fun e w' => (∃ A_ c_, e = .returned (.tuple #[.slice A_ l1.length c_, .int .i64 0]) ∧ l1.length ≤ c_ ∧ Kd.C k64 w' A_ l1.length l1) ∧ Below W.heap.size W w'))
  (HCL : Aside0 (∀ (v : S_R) W, v ∈ l1 → Calls Tryz.prog 26 #[.agg (edA x y z), .agg #[.int .i64 v.f0, .int .i64 v.f1, .int .i64 v.f2, .int .i64 v.f3]] W fun e w' => e = .returned (.tuple #[.bool (stepF x y z (farS x v) == 2), .int .i64 0]) ∧ Below W.heap.size W w'))
  (HM2 : Aside0 ((∀ v ∈ l1, ¬stepF x y z (farS x v) = 2) → ∀ W A_ c_, Below w.heap.size w W → KidsC W A_ c_ m.f5 → Calls Tryz.prog 17 #[nodeV m A_ c_, .agg (edA x2 y2 z2)] W (NodeIntOut n 0 W)))
  (HSA : Aside0 (∀ W A_ c_ B_ e_, KidsC W A_ c_ n.f5 → KidsC W B_ e_ n.f5 → Calls Tryz.prog 14 #[nodeV n A_ c_, nodeV n B_ e_] W fun e w' => e = .returned (.bool true) ∧ Below W.heap.size W w')) :
  Calls Tryz.prog 8 #[nodeV n A c, .agg (edA x y z)] w fun e w' => e = .returned (.bool true) ∧ Below w.heap.size w w' := by
 have HB := Aside0.mk (bel2 w (.cells (nodeA n A c) 33) (.cells (edA x y z) 47))
 have B2 := Aside0.mk (blk_alloc (newBlk w (.cells (nodeA n A c) 33)) (.cells (edA x y z) 47))
 have B3 := Aside0.mk (newBlk2 w (.cells (nodeA n A c) 33) (.cells (edA x y z) 47))
 go_enter Tryz.func8, Tryz.ntmps8
 go_wp2_with (first
  | ((with_reducible refine gate_dst (N := 16) rfl ?_); refine wpPartLd 16 rfl rfl 33 (.tmp 2) rfl _ rfl _ (nodeA n A c) [] (B2.out) rfl Tryz.underlying33 rfl (by kernel_rfl) ?_)
  | (go_at_call 9; (with_reducible refine (HD.out _ (bel2 w _ _)).mono ?_); rintro e w1 ⟨rfl, hb⟩; have HB_1 := Aside0.mk (below_step HB.out hb); have n_1 := Aside0.mk (blk_below B2.out hb); have e_1 := Aside0.mk (blk_below B3.out hb); clear hb HB B2 B3; have h_e := fun i => blk_cell e_1.out i)
  | ((with_reducible refine gate_dst (N := 30) rfl ?_); refine wpPartLd 30 rfl rfl 33 (.tmp 2) rfl _ rfl _ (nodeA n A c) [] (n_1.out) rfl Tryz.underlying33 rfl (by kernel_rfl) ?_)
  | ((with_reducible refine gate_dst (N := 31) rfl ?_); refine wpPartLd 31 rfl rfl 47 (.tmp 3) rfl _ rfl _ (edA x y z) [] (e_1.out) rfl Tryz.underlying47 rfl (by kernel_rfl) ?_)
  | (go_at_call 17; (with_reducible refine (HM.out _ HB_1.out).mono ?_); rintro e w2 ⟨A2, c2, rfl, hF, hb⟩; have HB_2 := Aside0.mk (below_step HB_1.out hb); have n_2 := Aside0.mk (blk_below n_1.out hb); have e_2 := Aside0.mk (blk_below e_1.out hb); have HN := Aside0.mk (heldNew hF); clear hF; clear hb HB_1 n_1 e_1 h_e)
  | ((with_reducible refine gate_store (t := 33) (p := 5) (v := .tmp 33) rfl ?_); refine wpRowSt rfl 33 (.tmp 5) (.tmp 33) rfl (w2.heap.size) (nodeA m A2 c2) rfl rfl 33 _ (newBlk w2 _) (by kernel_rfl) rfl rfl ?_; have HB_3 := Aside0.mk (rowBelow (below_alloc HB_2.out (.cells Z16 33)) HB_2.out.size (nodeA m A2 c2)); have n_3 := Aside0.mk (rowNew n_2.out (.cells Z16 33) (nodeA m A2 c2)); have Nn_m := Aside0.mk (Nat.ne_of_lt (blk_lt n_2.out)); have e_3 := Aside0.mk (rowNew e_2.out (.cells Z16 33) (nodeA m A2 c2)); have Ne_m := Aside0.mk (Nat.ne_of_lt (blk_lt e_2.out)); have m_3 := Aside0.mk (setRow_heap _ _ _ (nodeA m A2 c2) _ _ (newBlk w2 (.cells Z16 33))); clear HB_2 n_2 e_2)
  | ((with_reducible refine gate_dst (N := 36) rfl ?_); refine wpPartLd 36 rfl rfl 47 (.tmp 3) rfl _ rfl _ (edA x y z) [] (e_3.out) rfl Tryz.underlying47 rfl (by kernel_rfl) ?_)
  | (go_at_call 25; (with_reducible refine (HK.out _).mono ?_); rintro e w3 ⟨rfl, hb⟩; have HB_4 := Aside0.mk (below_step HB_3.out hb); have n_4 := Aside0.mk (blk_below n_3.out hb); have e_4 := Aside0.mk (blk_below e_3.out hb); have m_4 := Aside0.mk (blk_below m_3.out hb); have HN3 := Aside0.mk (HN.out.below hb); clear HN; clear hb HB_3 n_3 e_3 m_3)
  | ((with_reducible refine gate_store (t := 47) (p := 7) (v := .tmp 38) rfl ?_); refine wpRowSt rfl 47 (.tmp 7) (.tmp 38) rfl (w3.heap.size) (edA x2 y2 z2) rfl rfl 47 _ (newBlk w3 _) (by kernel_rfl) rfl rfl ?_; have HB_5 := Aside0.mk (rowBelow (below_alloc HB_4.out (.cells #[.int .i64 0, .int .i64 0, .int .i64 0] 47)) HB_4.out.size (edA x2 y2 z2)); have n_5 := Aside0.mk (rowNew n_4.out (.cells #[.int .i64 0, .int .i64 0, .int .i64 0] 47) (edA x2 y2 z2)); have Nn_b := Aside0.mk (Nat.ne_of_lt (blk_lt n_4.out)); have e_5 := Aside0.mk (rowNew e_4.out (.cells #[.int .i64 0, .int .i64 0, .int .i64 0] 47) (edA x2 y2 z2)); have Ne_b := Aside0.mk (Nat.ne_of_lt (blk_lt e_4.out)); have m_5 := Aside0.mk (rowNew m_4.out (.cells #[.int .i64 0, .int .i64 0, .int .i64 0] 47) (edA x2 y2 z2)); have Nm_b := Aside0.mk (Nat.ne_of_lt (blk_lt m_4.out)); have b_5 := Aside0.mk (setRow_heap _ _ _ (edA x2 y2 z2) _ _ (newBlk w3 (.cells #[.int .i64 0, .int .i64 0, .int .i64 0] 47))); clear HB_4 n_4 e_4 m_4)
  | ((with_reducible refine gate_dst (N := 48) rfl ?_); refine wpPartLd 48 rfl rfl 33 (.tmp 2) rfl _ rfl _ (nodeA n A c) [] (n_5.out) rfl Tryz.underlying33 rfl (by kernel_rfl) ?_)
  | (go_at_call 23; (with_reducible refine (HR1.out _ HB_5.out).mono ?_); rintro e w4 ⟨⟨A5, c5, rfl, hl5, hC5⟩, hb⟩; have HB_6 := Aside0.mk (below_step HB_5.out hb); have n_6 := Aside0.mk (blk_below n_5.out hb); have e_6 := Aside0.mk (blk_below e_5.out hb); have m_6 := Aside0.mk (blk_below m_5.out hb); have b_6 := Aside0.mk (blk_below b_5.out hb); have HN4 := Aside0.mk ((HN3.out.store (edA x2 y2 z2) (.cells #[.int .i64 0, .int .i64 0, .int .i64 0] 47)).below hb); clear HN3; have HC5 := Aside0.mk hC5; have HL5 := Aside0.mk hl5; clear hC5 hl5; clear hb HB_5 n_5 e_5 m_5 b_5))
 go_loopg [11, 12, 13] l1.length (fun kq v11 v12 v13 w' => ∃ (i : Nat), v11 = .int .i64 (i : Int) ∧ Aside0 (∀ v ∈ l1.take i, ¬stepF x y z (farS x v) = 2) ∧ Aside0 (i + kq = l1.length) ∧ Aside0 (Kd.C k64 w' A5 l1.length l1) ∧ Aside0 (w'.heap[w.heap.size]? = some (.cells (nodeA n A c) 33 (0, 0))) ∧ Aside0 (w'.heap[w.heap.size + 1]? = some (.cells (edA x y z) 47 (0, 0))) ∧ Aside0 (Held w' w2.heap.size m A2 c2) ∧ Aside0 (w'.heap[w3.heap.size]? = some (.cells (edA x2 y2 z2) 47 (0, 0))) ∧ Aside0 (Below w.heap.size w w'))
 case atStart => exact ⟨0, (by simp), ⟨by simp⟩, ⟨by omega⟩, HC5, n_6, e_6, HN4, b_6, HB_6⟩
 case round =>
  obtain ⟨i, rfl, HCT, HK1, D5, GN, GE, GM, GBk, GB⟩ := hrel
  cases gk with
  | zero =>
   have e0 : i = l1.length := by have := HK1.out; omega
   have c4 : decide ((i : Int) < (l1.length : Int)) = false := decide_eq_false (by omega)
   have hct := HCT.out
   rw [e0, List.take_length] at hct
   have HM3 := Aside0.mk (HM2.out hct)
   have G1 := Aside0.mk GM.out.1
   clear hct
   go_wp2_with (first
    | ((with_reducible refine gate_dst (N := 78) rfl ?_); refine wpPartLd 78 rfl rfl 33 (.tmp 5) rfl _ rfl _ (nodeA m A2 c2) [] (G1.out) rfl Tryz.underlying33 rfl (by kernel_rfl) ?_)
    | ((with_reducible refine gate_dst (N := 79) rfl ?_); refine wpPartLd 79 rfl rfl 47 (.tmp 7) rfl _ rfl _ (edA x2 y2 z2) [] (GBk.out) rfl Tryz.underlying47 rfl (by kernel_rfl) ?_)
    | (go_at_call 17; (with_reducible refine (HM3.out _ _ _ GB.out GM.out.now).mono ?_); rintro e w7 ⟨A7, c7, rfl, hF, hb⟩; have HB_1 := Aside0.mk (below_step GB.out hb); have n_1 := Aside0.mk (blk_below GN.out hb); have m_1 := Aside0.mk (blk_below G1.out hb); have b_1 := Aside0.mk (blk_below GBk.out hb); have HH := Aside0.mk (heldNew hF); clear hF; clear hb GB GN G1 GBk)
    | ((with_reducible refine gate_store (t := 33) (p := 14) (v := .tmp 81) rfl ?_); refine wpRowSt rfl 33 (.tmp 14) (.tmp 81) rfl (w7.heap.size) (nodeA n A7 c7) rfl rfl 33 _ (newBlk w7 _) (by kernel_rfl) rfl rfl ?_; have HB_2 := Aside0.mk (rowBelow (below_alloc HB_1.out (.cells Z16 33)) HB_1.out.size (nodeA n A7 c7)); have n_2 := Aside0.mk (rowNew n_1.out (.cells Z16 33) (nodeA n A7 c7)); have Nn_k := Aside0.mk (Nat.ne_of_lt (blk_lt n_1.out)); have m_2 := Aside0.mk (rowNew m_1.out (.cells Z16 33) (nodeA n A7 c7)); have Nm_k := Aside0.mk (Nat.ne_of_lt (blk_lt m_1.out)); have b_2 := Aside0.mk (rowNew b_1.out (.cells Z16 33) (nodeA n A7 c7)); have Nb_k := Aside0.mk (Nat.ne_of_lt (blk_lt b_1.out)); have k_2 := Aside0.mk (setRow_heap _ _ _ (nodeA n A7 c7) _ _ (newBlk w7 (.cells Z16 33))); clear HB_1 n_1 m_1 b_1)
    | ((with_reducible refine gate_dst (N := 86) rfl ?_); (refine gate_guard (by rfl) ?_; dsimp only); refine wpPartLd 86 rfl rfl 33 (.tmp 14) rfl _ rfl _ (nodeA n A7 c7) [] (k_2.out) rfl Tryz.underlying33 rfl (by kernel_rfl) ?_)
    | ((with_reducible refine gate_dst (N := 87) rfl ?_); (refine gate_guard (by rfl) ?_; dsimp only); refine wpPartLd 87 rfl rfl 33 (.tmp 2) rfl _ rfl _ (nodeA n A c) [] (n_2.out) rfl Tryz.underlying33 rfl (by kernel_rfl) ?_)
    | (go_at_call 14; (with_reducible refine (HSA.out _ _ _ _ _ HH.out.now (HKn.out.below HB_2.out)).mono ?_); rintro e w8 ⟨rfl, hb⟩; have HB_3 := Aside0.mk (below_step HB_2.out hb); have n_3 := Aside0.mk (blk_below n_2.out hb); have m_3 := Aside0.mk (blk_below m_2.out hb); have b_3 := Aside0.mk (blk_below b_2.out hb); have k_3 := Aside0.mk (blk_below k_2.out hb); clear hb HB_2 n_2 m_2 b_2 k_2)
    | (go_at_call 10; (with_reducible refine (HL.out _ HB_3.out).mono ?_); rintro e w9 ⟨rfl, hb⟩; have HB_4 := Aside0.mk (below_step HB_3.out hb); have n_4 := Aside0.mk (blk_below n_3.out hb); have m_4 := Aside0.mk (blk_below m_3.out hb); have b_4 := Aside0.mk (blk_below b_3.out hb); have k_4 := Aside0.mk (blk_below k_3.out hb); clear hb HB_3 n_3 m_3 b_3 k_3))
   go_ret
   exact ⟨rfl, HB_4.out⟩
  | succ k1 =>
   have e1 : i < l1.length := by have := HK1.out; omega
   have c4 : decide ((i : Int) < (l1.length : Int)) = true := decide_eq_true (by omega)
   have hrd : rd_T64 l1 (i : Int) = l1[i] := by
    unfold rd_T64
    rw [Int.toNat_natCast, List.getD_eq_getElem?_getD, List.getElem?_eq_getElem e1]; rfl
   obtain ⟨ad, hA5, v0, v1, v2, v3⟩ := at_T64 D5.out (i : Int) (by omega) (by omega)
   subst hA5
   rw [hrd] at v0 v1 v2 v3
   have a0 : wr.cell? ⟨w.heap.size + 1, 0, none⟩ = some (.int .i64 x) := (blk_cell GE.out 0).trans rfl
   have a1 : wr.cell? ⟨w.heap.size + 1, 1, none⟩ = some (.int .i64 y) := (blk_cell GE.out 1).trans rfl
   have a2 : wr.cell? ⟨w.heap.size + 1, 2, none⟩ = some (.int .i64 z) := (blk_cell GE.out 2).trans rfl
   have HCi := Aside0.mk fun W => HCL.out l1[i] W (List.getElem_mem e1)
   by_cases hz : stepF x y z (farS x l1[i]) = 2
   ·rw [show (stepF x y z (farS x l1[i]) == 2) = true from by simpa using hz] at HCi
    go_wp2
    refine start_ (n := 11) (S := fun w' => w'.cell? (ad.add (i * 4)) = some (.int .i64 (l1[i]).f0) ∧ w'.cell? ⟨(ad.add (i * 4)).block, (ad.add (i * 4)).off + 1, none⟩ = some (.int .i64 (l1[i]).f1) ∧ w'.cell? ⟨(ad.add (i * 4)).block, (ad.add (i * 4)).off + 2, none⟩ = some (.int .i64 (l1[i]).f2) ∧ w'.cell? ⟨(ad.add (i * 4)).block, (ad.add (i * 4)).off + 3, none⟩ = some (.int .i64 (l1[i]).f3) ∧ w'.cell? ⟨w.heap.size + 1, 0, none⟩ = some (.int .i64 x) ∧ w'.cell? ⟨w.heap.size + 1, 1, none⟩ = some (.int .i64 y) ∧ w'.cell? ⟨w.heap.size + 1, 2, none⟩ = some (.int .i64 z) ∧ Below wr.heap.size wr w') (ds := []) (Array.replicate 11 false) (by kernel_rfl) rfl rfl ⟨v0, v1, v2, v3, a0, a1, a2, below_drew1 (Below.refl _ _)⟩ (fun hHeld => ?_)
    refine with_tabW back11.tab11 back11.bits11 (fun HT_ HW_ => ?_)
    refine pz 1 60 HT_ ?_; refine pz 2 61 HT_ ?_; refine pz 3 62 HT_ ?_
    refine tz 0 59 HT_ HW_ (hr := (by rintro w' ⟨s1, s2, s3, s4, s5, s6, s7, s8⟩; go_simp; with_reducible rfl)) (hS := hHeld) (h := ?_)
    refine tz 4 63 HT_ HW_ (hr := (by rintro w' ⟨s1, s2, s3, s4, s5, s6, s7, s8⟩; go_simp; with_reducible rfl)) (hS := hHeld) (h := ?_)
    refine oneI 5 (some 64) HT_ rfl rfl (by kernel_rfl) (by decide) (fun K hK => ?_)
    refine goes_ Tryz.func26 (by kernel_rfl) rfl #[.agg #[.int .i64 x, .int .i64 y, .int .i64 z], .agg #[.int .i64 (l1[i]).f0, .int .i64 (l1[i]).f1, .int .i64 (l1[i]).f2, .int .i64 (l1[i]).f3]] (by (try simp only [List.map_toArray, List.map_cons, List.map_nil]); first | done | rfl) rfl rfl (by first | rfl | ((try simp only [List.map_toArray, List.map_cons, List.map_nil]); first | done | rfl)) ?_
    with_reducible refine (HCi.out _).mono ?_
    rintro e w9 ⟨rfl, hb⟩
    refine ⟨_, rfl, ?_⟩
    refine hK.out _ _ ⟨(hb.cell (World.block_lt_of_cell? _ _ hHeld.1)).trans hHeld.1, (hb.cell (World.block_lt_of_cell? _ _ hHeld.2.1)).trans hHeld.2.1, (hb.cell (World.block_lt_of_cell? _ _ hHeld.2.2.1)).trans hHeld.2.2.1, (hb.cell (World.block_lt_of_cell? _ _ hHeld.2.2.2.1)).trans hHeld.2.2.2.1, (hb.cell (World.block_lt_of_cell? _ _ hHeld.2.2.2.2.1)).trans hHeld.2.2.2.2.1, (hb.cell (World.block_lt_of_cell? _ _ hHeld.2.2.2.2.2.1)).trans hHeld.2.2.2.2.2.1, (hb.cell (World.block_lt_of_cell? _ _ hHeld.2.2.2.2.2.2.1)).trans hHeld.2.2.2.2.2.2.1, below_step hHeld.2.2.2.2.2.2.2 hb⟩ (fun hHeld => ?_)
    clear hK K
    refine nz 64 ?_
    refine pz 6 58 HT_ ?_; refine pz 7 65 HT_ ?_; refine pz 8 66 HT_ ?_; refine pz 9 12 HT_ ?_; refine pz 10 13 HT_ ?_
    refine done_ (done_of HT_.out (by kernel_rfl)) ?_
    have HQ := Aside0.mk hHeld.2.2.2.2.2.2.2
    clear hHeld
    go_wp2_with (first
     | (go_at_call 10; (with_reducible refine (HL.out _ (below_step GB.out HQ.out)).mono ?_); rintro e w8 ⟨rfl, hb⟩; have HE := Aside0.mk (below_step (below_step GB.out HQ.out) hb); clear hb))
    go_ret
    exact ⟨rfl, HE.out⟩
   ·rw [show (stepF x y z (farS x l1[i]) == 2) = false from by simpa using hz] at HCi
    go_wp2
    refine start_ (n := 11) (S := fun w' => w'.cell? (ad.add (i * 4)) = some (.int .i64 (l1[i]).f0) ∧ w'.cell? ⟨(ad.add (i * 4)).block, (ad.add (i * 4)).off + 1, none⟩ = some (.int .i64 (l1[i]).f1) ∧ w'.cell? ⟨(ad.add (i * 4)).block, (ad.add (i * 4)).off + 2, none⟩ = some (.int .i64 (l1[i]).f2) ∧ w'.cell? ⟨(ad.add (i * 4)).block, (ad.add (i * 4)).off + 3, none⟩ = some (.int .i64 (l1[i]).f3) ∧ w'.cell? ⟨w.heap.size + 1, 0, none⟩ = some (.int .i64 x) ∧ w'.cell? ⟨w.heap.size + 1, 1, none⟩ = some (.int .i64 y) ∧ w'.cell? ⟨w.heap.size + 1, 2, none⟩ = some (.int .i64 z) ∧ Below wr.heap.size wr w') (ds := []) (Array.replicate 11 false) (by kernel_rfl) rfl rfl ⟨v0, v1, v2, v3, a0, a1, a2, below_drew1 (Below.refl _ _)⟩ (fun hHeld => ?_)
    refine with_tabW back11.tab11 back11.bits11 (fun HT_ HW_ => ?_)
    refine pz 1 60 HT_ ?_; refine pz 2 61 HT_ ?_; refine pz 3 62 HT_ ?_
    refine tz 0 59 HT_ HW_ (hr := (by rintro w' ⟨s1, s2, s3, s4, s5, s6, s7, s8⟩; go_simp; with_reducible rfl)) (hS := hHeld) (h := ?_)
    refine tz 4 63 HT_ HW_ (hr := (by rintro w' ⟨s1, s2, s3, s4, s5, s6, s7, s8⟩; go_simp; with_reducible rfl)) (hS := hHeld) (h := ?_)
    refine oneI 5 (some 64) HT_ rfl rfl (by kernel_rfl) (by decide) (fun K hK => ?_)
    refine goes_ Tryz.func26 (by kernel_rfl) rfl #[.agg #[.int .i64 x, .int .i64 y, .int .i64 z], .agg #[.int .i64 (l1[i]).f0, .int .i64 (l1[i]).f1, .int .i64 (l1[i]).f2, .int .i64 (l1[i]).f3]] (by (try simp only [List.map_toArray, List.map_cons, List.map_nil]); first | done | rfl) rfl rfl (by first | rfl | ((try simp only [List.map_toArray, List.map_cons, List.map_nil]); first | done | rfl)) ?_
    with_reducible refine (HCi.out _).mono ?_
    rintro e w9 ⟨rfl, hb⟩
    refine ⟨_, rfl, ?_⟩
    refine hK.out _ _ ⟨(hb.cell (World.block_lt_of_cell? _ _ hHeld.1)).trans hHeld.1, (hb.cell (World.block_lt_of_cell? _ _ hHeld.2.1)).trans hHeld.2.1, (hb.cell (World.block_lt_of_cell? _ _ hHeld.2.2.1)).trans hHeld.2.2.1, (hb.cell (World.block_lt_of_cell? _ _ hHeld.2.2.2.1)).trans hHeld.2.2.2.1, (hb.cell (World.block_lt_of_cell? _ _ hHeld.2.2.2.2.1)).trans hHeld.2.2.2.2.1, (hb.cell (World.block_lt_of_cell? _ _ hHeld.2.2.2.2.2.1)).trans hHeld.2.2.2.2.2.1, (hb.cell (World.block_lt_of_cell? _ _ hHeld.2.2.2.2.2.2.1)).trans hHeld.2.2.2.2.2.2.1, below_step hHeld.2.2.2.2.2.2.2 hb⟩ (fun hHeld => ?_)
    clear hK K
    refine nz 64 ?_
    refine pz 6 58 HT_ ?_; refine pz 7 65 HT_ ?_; refine pz 8 66 HT_ ?_; refine pz 9 12 HT_ ?_; refine pz 10 13 HT_ ?_
    refine done_ (done_of HT_.out (by kernel_rfl)) ?_
    have HQ := Aside0.mk hHeld.2.2.2.2.2.2.2
    clear hHeld
    go_wp2
    go_roundg k1
    case measure => omega
    case rel => exact ⟨i + 1, by rw [show wrap64 ((i : Int) + 1) = ((i + 1 : Nat) : Int) by have := HN1.out; unfold wrap64; omega], ⟨take_clip e1 HCT.out hz⟩, ⟨by have := HK1.out; omega⟩, ⟨Kd.C_below D5.out HQ.out⟩, ⟨blk_below GN.out HQ.out⟩, ⟨blk_below GE.out HQ.out⟩, ⟨GM.out.below HQ.out⟩, ⟨blk_below GBk.out HQ.out⟩, ⟨below_step GB.out HQ.out⟩⟩
end Go.Proofs.YthnldbclbfpojaaGreatDoor.Pr
end
