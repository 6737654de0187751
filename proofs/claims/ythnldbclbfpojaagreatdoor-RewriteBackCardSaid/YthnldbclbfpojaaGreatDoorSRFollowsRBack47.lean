/-
  Lemmas for the law RFollowsRBack.
-/
import Derived.Test.YthnldbclbfpojaaGreatDoorSRFollowsRBack44
import Derived.Test.YthnldbclbfpojaaGreatDoorSRFollowsRBack46
import Derived.Test.YthnldbclbfpojaaGreatDoorSRFollowsRBack26
import Derived.Test.YthnldbclbfpojaaGreatDoorSRFollowsRBack30
import Derived.Test.YthnldbclbfpojaaGreatDoorSRFollowsRBack11
import Derived.Test.YthnldbclbfpojaaGreatDoorSRFollowsRBack14
import Derived.Test.YthnldbclbfpojaaGreatDoorSRFollowsRBack43
import Derived.Test.YthnldbclbfpojaaGreatDoorSRFollowsRBack40
import Derived.Test.YthnldbclbfpojaaGreatDoorSRFollowsRBack13
set_option maxHeartbeats 8000000
set_option maxRecDepth 100000
set_option linter.unusedVariables false
set_option linter.unusedSimpArgs false
section
namespace Go.Proofs.YthnldbclbfpojaaGreatDoor.Pr
open Go.RowKit Go.Proofs.YthnldbclbfpojaaGreatDoorW.PrintWords Go.Proofs.YthnldbclbfpojaaGreatDoorW.PrintLast Go.Proofs.YthnldbclbfpojaaGreatDoorW.PrintMore
theorem any_take_succ {α : Type} {l : List α} {i : Nat} (P : α → Bool) (h : i < l.length) : (l.take (i + 1)).any P = ((l.take i).any P || P l[i]) := by
 rw [List.take_succ_eq_append_getElem h, List.any_append]; simp
def follows13.T13 : Bool × List (List Nat × List Nat) := (true, [([], []), ([0], [0]), ([1], [1]), ([1], [1]), ([2, 3, 1], [1, 2, 3]), ([4, 1], [1, 4]), ([1], [1]), ([5, 6, 1, 1], [1, 5, 6]), ([1, 7], [1, 7]), ([8, 7, 0, 1, 2, 3, 4, 5, 6, 7, 8], [0, 8])])
def follows13.B13 : List Nat := [0, 1, 3, 3, 15, 31, 3, 127, 255, 511]
theorem follows13.tab13 : rtab .any (opsOf Tryz.f7 13) = follows13.T13 := by kernel_rfl
theorem follows13.bits13 : waitsOk follows13.T13.2 follows13.B13 = true := by kernel_rfl
def follows17.T17 : Bool × List (List Nat × List Nat) := (true, [([], []), ([0], [0]), ([1], [1]), ([1], [1]), ([2, 3, 1], [1, 2, 3]), ([4, 1], [1, 4]), ([1], [1]), ([5, 6, 1, 1], [1, 5, 6]), ([1, 7], [1, 7]), ([8, 7, 0, 1, 2, 3, 4, 5, 6, 7, 8], [0, 8])])
def follows17.B17 : List Nat := [0, 1, 3, 3, 15, 31, 3, 127, 255, 511]
theorem follows17.tab17 : rtab .any (opsOf Tryz.f7 17) = follows17.T17 := by kernel_rfl
theorem follows17.bits17 : waitsOk follows17.T17.2 follows17.B17 = true := by kernel_rfl
theorem follows_deep (n m : Nd) (x y z r k : Int) (A : Option Addr) (c : Nat)  (w : World)
  (HD : Aside0 (∀ W, Below w.heap.size w W → Calls Tryz.prog 9 #[nodeV n A c] W fun e w' => e = .returned (.bool true) ∧ Below W.heap.size W w'))
  (HL : Aside0 (∀ W, Below w.heap.size w W → Calls Tryz.prog 10 #[] W fun e w' => e = .returned (.bool true) ∧ Below W.heap.size W w')) :
  Calls Tryz.prog 7 #[nodeV n A c, .agg (edA x y z), .agg #[.int .i64 r, .int .i64 k]] w fun e w' => e = .returned (.bool true) ∧ Below w.heap.size w w' := by
 have HB := Aside0.mk (bel3 w (.cells (nodeA n A c) 33) (.cells (edA x y z) 47) (.cells #[.int .i64 r, .int .i64 k] 28))
 have B2 := Aside0.mk (newBlk3a w (.cells (nodeA n A c) 33) (.cells (edA x y z) 47) (.cells #[.int .i64 r, .int .i64 k] 28))
 have B3 := Aside0.mk (newBlk3b w (.cells (nodeA n A c) 33) (.cells (edA x y z) 47) (.cells #[.int .i64 r, .int .i64 k] 28))
 have B4 := Aside0.mk (newBlk3c w (.cells (nodeA n A c) 33) (.cells (edA x y z) 47) (.cells #[.int .i64 r, .int .i64 k] 28))
 go_enter Tryz.func7, Tryz.ntmps7
 go_wp2_with (first
  | ((with_reducible refine gate_dst (N := 20) rfl ?_); refine wpPartLd 20 rfl rfl 33 (.tmp 3) rfl _ rfl _ (nodeA n A c) [] (B2.out) rfl Tryz.underlying33 rfl (by kernel_rfl) ?_)
  | (go_at_call 9; (with_reducible refine (HD.out _ (bel3 w _ _ _)).mono ?_); rintro e w1 ⟨rfl, hb⟩; have HB_1 := Aside0.mk (below_step HB.out hb); have n_1 := Aside0.mk (blk_below B2.out hb); have e_1 := Aside0.mk (blk_below B3.out hb); have o_1 := Aside0.mk (blk_below B4.out hb); clear hb HB B2 B3 B4)
  | (go_at_call 10; (with_reducible refine (HL.out _ HB_1.out).mono ?_); rintro e w2 ⟨rfl, hb⟩; have HB_2 := Aside0.mk (below_step HB_1.out hb); have n_2 := Aside0.mk (blk_below n_1.out hb); have e_2 := Aside0.mk (blk_below e_1.out hb); have o_2 := Aside0.mk (blk_below o_1.out hb); clear hb HB_1 n_1 e_1 o_1))
 go_ret
 exact ⟨rfl, HB_2.out⟩
theorem follows_no1 (n m : Nd) (x y z r k : Int) (A : Option Addr) (c : Nat) (q r2 k2 ft er : Int) (hq : ¬q = 0) (w : World)
  (HD : Aside0 (∀ W, Below w.heap.size w W → Calls Tryz.prog 9 #[nodeV n A c] W fun e w' => e = .returned (.bool false) ∧ Below W.heap.size W w'))
  (HL : Aside0 (∀ W, Below w.heap.size w W → Calls Tryz.prog 10 #[] W fun e w' => e = .returned (.bool true) ∧ Below W.heap.size W w'))
  (HM : Aside0 (∀ W, Below w.heap.size w W → Calls Tryz.prog 17 #[nodeV n A c, .agg (edA x y z)] W (NodeIntOut m q W)))
  (HS : Aside0 (∀ W, Calls Tryz.prog 22 #[.agg (edA x y z), .agg #[.int .i64 r, .int .i64 k]] W fun e w' => e = .returned (.tuple #[.agg #[.int .i64 r2, .int .i64 k2], .int .i64 ft, .int .i64 er]) ∧ Below W.heap.size W w')) :
  Calls Tryz.prog 7 #[nodeV n A c, .agg (edA x y z), .agg #[.int .i64 r, .int .i64 k]] w fun e w' => e = .returned (.bool true) ∧ Below w.heap.size w w' := by
 have HB := Aside0.mk (bel3 w (.cells (nodeA n A c) 33) (.cells (edA x y z) 47) (.cells #[.int .i64 r, .int .i64 k] 28))
 have B2 := Aside0.mk (newBlk3a w (.cells (nodeA n A c) 33) (.cells (edA x y z) 47) (.cells #[.int .i64 r, .int .i64 k] 28))
 have B3 := Aside0.mk (newBlk3b w (.cells (nodeA n A c) 33) (.cells (edA x y z) 47) (.cells #[.int .i64 r, .int .i64 k] 28))
 have B4 := Aside0.mk (newBlk3c w (.cells (nodeA n A c) 33) (.cells (edA x y z) 47) (.cells #[.int .i64 r, .int .i64 k] 28))
 go_enter Tryz.func7, Tryz.ntmps7
 go_wp2_with (first
  | ((with_reducible refine gate_dst (N := 20) rfl ?_); refine wpPartLd 20 rfl rfl 33 (.tmp 3) rfl _ rfl _ (nodeA n A c) [] (B2.out) rfl Tryz.underlying33 rfl (by kernel_rfl) ?_)
  | (go_at_call 9; (with_reducible refine (HD.out _ (bel3 w _ _ _)).mono ?_); rintro e w1 ⟨rfl, hb⟩; have HB_1 := Aside0.mk (below_step HB.out hb); have n_1 := Aside0.mk (blk_below B2.out hb); have e_1 := Aside0.mk (blk_below B3.out hb); have o_1 := Aside0.mk (blk_below B4.out hb); clear hb HB B2 B3 B4)
  | ((with_reducible refine gate_dst (N := 24) rfl ?_); refine wpPartLd 24 rfl rfl 33 (.tmp 3) rfl _ rfl _ (nodeA n A c) [] (n_1.out) rfl Tryz.underlying33 rfl (by kernel_rfl) ?_)
  | ((with_reducible refine gate_dst (N := 25) rfl ?_); refine wpPartLd 25 rfl rfl 47 (.tmp 4) rfl _ rfl _ (edA x y z) [] (e_1.out) rfl Tryz.underlying47 rfl (by kernel_rfl) ?_)
  | (go_at_call 17; (with_reducible refine (HM.out _ HB_1.out).mono ?_); rintro e w2 ⟨A2, c2, rfl, hF, hb⟩; have HB_2 := Aside0.mk (below_step HB_1.out hb); have n_2 := Aside0.mk (blk_below n_1.out hb); have e_2 := Aside0.mk (blk_below e_1.out hb); have o_2 := Aside0.mk (blk_below o_1.out hb); have HN := Aside0.mk (heldNew hF); clear hF; clear hb HB_1 n_1 e_1 o_1)
  | ((with_reducible refine gate_store (t := 33) (p := 7) (v := .tmp 27) rfl ?_); refine wpRowSt rfl 33 (.tmp 7) (.tmp 27) rfl (w2.heap.size) (nodeA m A2 c2) rfl rfl 33 _ (newBlk w2 _) (by kernel_rfl) rfl rfl ?_; have HB_3 := Aside0.mk (rowBelow (below_alloc HB_2.out (.cells Z16 33)) HB_2.out.size (nodeA m A2 c2)); have n_3 := Aside0.mk (rowNew n_2.out (.cells Z16 33) (nodeA m A2 c2)); have Nn_m := Aside0.mk (Nat.ne_of_lt (blk_lt n_2.out)); have e_3 := Aside0.mk (rowNew e_2.out (.cells Z16 33) (nodeA m A2 c2)); have Ne_m := Aside0.mk (Nat.ne_of_lt (blk_lt e_2.out)); have o_3 := Aside0.mk (rowNew o_2.out (.cells Z16 33) (nodeA m A2 c2)); have No_m := Aside0.mk (Nat.ne_of_lt (blk_lt o_2.out)); have m_3 := Aside0.mk (setRow_heap _ _ _ (nodeA m A2 c2) _ _ (newBlk w2 (.cells Z16 33))); clear HB_2 n_2 e_2 o_2)
  | ((with_reducible refine gate_dst (N := 30) rfl ?_); refine wpPartLd 30 rfl rfl 47 (.tmp 4) rfl _ rfl _ (edA x y z) [] (e_3.out) rfl Tryz.underlying47 rfl (by kernel_rfl) ?_)
  | ((with_reducible refine gate_dst (N := 31) rfl ?_); refine wpPartLd 31 rfl rfl 28 (.tmp 5) rfl _ rfl _ (#[.int .i64 r, .int .i64 k]) [] (o_3.out) rfl Tryz.underlying28 rfl (by kernel_rfl) ?_)
  | (go_at_call 22; (with_reducible refine (HS.out _).mono ?_); rintro e w3 ⟨rfl, hb⟩; have HB_4 := Aside0.mk (below_step HB_3.out hb); have n_4 := Aside0.mk (blk_below n_3.out hb); have e_4 := Aside0.mk (blk_below e_3.out hb); have o_4 := Aside0.mk (blk_below o_3.out hb); have m_4 := Aside0.mk (blk_below m_3.out hb); have HN3 := Aside0.mk (HN.out.below hb); clear HN; clear hb HB_3 n_3 e_3 o_3 m_3)
  | ((with_reducible refine gate_store (t := 28) (p := 9) (v := .tmp 33) rfl ?_); refine wpRowSt rfl 28 (.tmp 9) (.tmp 33) rfl (w3.heap.size) (#[.int .i64 r2, .int .i64 k2]) rfl rfl 28 _ (newBlk w3 _) (by kernel_rfl) rfl rfl ?_; have HB_5 := Aside0.mk (rowBelow (below_alloc HB_4.out (.cells #[.int .i64 0, .int .i64 0] 28)) HB_4.out.size (#[.int .i64 r2, .int .i64 k2])); have n_5 := Aside0.mk (rowNew n_4.out (.cells #[.int .i64 0, .int .i64 0] 28) (#[.int .i64 r2, .int .i64 k2])); have Nn_t := Aside0.mk (Nat.ne_of_lt (blk_lt n_4.out)); have e_5 := Aside0.mk (rowNew e_4.out (.cells #[.int .i64 0, .int .i64 0] 28) (#[.int .i64 r2, .int .i64 k2])); have Ne_t := Aside0.mk (Nat.ne_of_lt (blk_lt e_4.out)); have o_5 := Aside0.mk (rowNew o_4.out (.cells #[.int .i64 0, .int .i64 0] 28) (#[.int .i64 r2, .int .i64 k2])); have No_t := Aside0.mk (Nat.ne_of_lt (blk_lt o_4.out)); have m_5 := Aside0.mk (rowNew m_4.out (.cells #[.int .i64 0, .int .i64 0] 28) (#[.int .i64 r2, .int .i64 k2])); have Nm_t := Aside0.mk (Nat.ne_of_lt (blk_lt m_4.out)); have t_5 := Aside0.mk (setRow_heap _ _ _ (#[.int .i64 r2, .int .i64 k2]) _ _ (newBlk w3 (.cells #[.int .i64 0, .int .i64 0] 28))); clear HB_4 n_4 e_4 o_4 m_4)
  | (go_at_call 10; (with_reducible refine (HL.out _ HB_5.out).mono ?_); rintro e w4 ⟨rfl, hb⟩; have HB_6 := Aside0.mk (below_step HB_5.out hb); have n_6 := Aside0.mk (blk_below n_5.out hb); have e_6 := Aside0.mk (blk_below e_5.out hb); have o_6 := Aside0.mk (blk_below o_5.out hb); have m_6 := Aside0.mk (blk_below m_5.out hb); have t_6 := Aside0.mk (blk_below t_5.out hb); clear hb HB_5 n_5 e_5 o_5 m_5 t_5))
 go_ret
 exact ⟨rfl, HB_6.out⟩
theorem follows_no2 (n m : Nd) (x y z r k : Int) (A : Option Addr) (c : Nat) (q r2 k2 ft er : Int) (hq : q = 0) (hr : ¬er = 0) (w : World)
  (HD : Aside0 (∀ W, Below w.heap.size w W → Calls Tryz.prog 9 #[nodeV n A c] W fun e w' => e = .returned (.bool false) ∧ Below W.heap.size W w'))
  (HL : Aside0 (∀ W, Below w.heap.size w W → Calls Tryz.prog 10 #[] W fun e w' => e = .returned (.bool true) ∧ Below W.heap.size W w'))
  (HM : Aside0 (∀ W, Below w.heap.size w W → Calls Tryz.prog 17 #[nodeV n A c, .agg (edA x y z)] W (NodeIntOut m q W)))
  (HS : Aside0 (∀ W, Calls Tryz.prog 22 #[.agg (edA x y z), .agg #[.int .i64 r, .int .i64 k]] W fun e w' => e = .returned (.tuple #[.agg #[.int .i64 r2, .int .i64 k2], .int .i64 ft, .int .i64 er]) ∧ Below W.heap.size W w')) :
  Calls Tryz.prog 7 #[nodeV n A c, .agg (edA x y z), .agg #[.int .i64 r, .int .i64 k]] w fun e w' => e = .returned (.bool true) ∧ Below w.heap.size w w' := by
 have HB := Aside0.mk (bel3 w (.cells (nodeA n A c) 33) (.cells (edA x y z) 47) (.cells #[.int .i64 r, .int .i64 k] 28))
 have B2 := Aside0.mk (newBlk3a w (.cells (nodeA n A c) 33) (.cells (edA x y z) 47) (.cells #[.int .i64 r, .int .i64 k] 28))
 have B3 := Aside0.mk (newBlk3b w (.cells (nodeA n A c) 33) (.cells (edA x y z) 47) (.cells #[.int .i64 r, .int .i64 k] 28))
 have B4 := Aside0.mk (newBlk3c w (.cells (nodeA n A c) 33) (.cells (edA x y z) 47) (.cells #[.int .i64 r, .int .i64 k] 28))
 go_enter Tryz.func7, Tryz.ntmps7
 go_wp2_with (first
  | ((with_reducible refine gate_dst (N := 20) rfl ?_); refine wpPartLd 20 rfl rfl 33 (.tmp 3) rfl _ rfl _ (nodeA n A c) [] (B2.out) rfl Tryz.underlying33 rfl (by kernel_rfl) ?_)
  | (go_at_call 9; (with_reducible refine (HD.out _ (bel3 w _ _ _)).mono ?_); rintro e w1 ⟨rfl, hb⟩; have HB_1 := Aside0.mk (below_step HB.out hb); have n_1 := Aside0.mk (blk_below B2.out hb); have e_1 := Aside0.mk (blk_below B3.out hb); have o_1 := Aside0.mk (blk_below B4.out hb); clear hb HB B2 B3 B4)
  | ((with_reducible refine gate_dst (N := 24) rfl ?_); refine wpPartLd 24 rfl rfl 33 (.tmp 3) rfl _ rfl _ (nodeA n A c) [] (n_1.out) rfl Tryz.underlying33 rfl (by kernel_rfl) ?_)
  | ((with_reducible refine gate_dst (N := 25) rfl ?_); refine wpPartLd 25 rfl rfl 47 (.tmp 4) rfl _ rfl _ (edA x y z) [] (e_1.out) rfl Tryz.underlying47 rfl (by kernel_rfl) ?_)
  | (go_at_call 17; (with_reducible refine (HM.out _ HB_1.out).mono ?_); rintro e w2 ⟨A2, c2, rfl, hF, hb⟩; have HB_2 := Aside0.mk (below_step HB_1.out hb); have n_2 := Aside0.mk (blk_below n_1.out hb); have e_2 := Aside0.mk (blk_below e_1.out hb); have o_2 := Aside0.mk (blk_below o_1.out hb); have HN := Aside0.mk (heldNew hF); clear hF; clear hb HB_1 n_1 e_1 o_1)
  | ((with_reducible refine gate_store (t := 33) (p := 7) (v := .tmp 27) rfl ?_); refine wpRowSt rfl 33 (.tmp 7) (.tmp 27) rfl (w2.heap.size) (nodeA m A2 c2) rfl rfl 33 _ (newBlk w2 _) (by kernel_rfl) rfl rfl ?_; have HB_3 := Aside0.mk (rowBelow (below_alloc HB_2.out (.cells Z16 33)) HB_2.out.size (nodeA m A2 c2)); have n_3 := Aside0.mk (rowNew n_2.out (.cells Z16 33) (nodeA m A2 c2)); have Nn_m := Aside0.mk (Nat.ne_of_lt (blk_lt n_2.out)); have e_3 := Aside0.mk (rowNew e_2.out (.cells Z16 33) (nodeA m A2 c2)); have Ne_m := Aside0.mk (Nat.ne_of_lt (blk_lt e_2.out)); have o_3 := Aside0.mk (rowNew o_2.out (.cells Z16 33) (nodeA m A2 c2)); have No_m := Aside0.mk (Nat.ne_of_lt (blk_lt o_2.out)); have m_3 := Aside0.mk (setRow_heap _ _ _ (nodeA m A2 c2) _ _ (newBlk w2 (.cells Z16 33))); clear HB_2 n_2 e_2 o_2)
  | ((with_reducible refine gate_dst (N := 30) rfl ?_); refine wpPartLd 30 rfl rfl 47 (.tmp 4) rfl _ rfl _ (edA x y z) [] (e_3.out) rfl Tryz.underlying47 rfl (by kernel_rfl) ?_)
  | ((with_reducible refine gate_dst (N := 31) rfl ?_); refine wpPartLd 31 rfl rfl 28 (.tmp 5) rfl _ rfl _ (#[.int .i64 r, .int .i64 k]) [] (o_3.out) rfl Tryz.underlying28 rfl (by kernel_rfl) ?_)
  | (go_at_call 22; (with_reducible refine (HS.out _).mono ?_); rintro e w3 ⟨rfl, hb⟩; have HB_4 := Aside0.mk (below_step HB_3.out hb); have n_4 := Aside0.mk (blk_below n_3.out hb); have e_4 := Aside0.mk (blk_below e_3.out hb); have o_4 := Aside0.mk (blk_below o_3.out hb); have m_4 := Aside0.mk (blk_below m_3.out hb); have HN3 := Aside0.mk (HN.out.below hb); clear HN; clear hb HB_3 n_3 e_3 o_3 m_3)
  | ((with_reducible refine gate_store (t := 28) (p := 9) (v := .tmp 33) rfl ?_); refine wpRowSt rfl 28 (.tmp 9) (.tmp 33) rfl (w3.heap.size) (#[.int .i64 r2, .int .i64 k2]) rfl rfl 28 _ (newBlk w3 _) (by kernel_rfl) rfl rfl ?_; have HB_5 := Aside0.mk (rowBelow (below_alloc HB_4.out (.cells #[.int .i64 0, .int .i64 0] 28)) HB_4.out.size (#[.int .i64 r2, .int .i64 k2])); have n_5 := Aside0.mk (rowNew n_4.out (.cells #[.int .i64 0, .int .i64 0] 28) (#[.int .i64 r2, .int .i64 k2])); have Nn_t := Aside0.mk (Nat.ne_of_lt (blk_lt n_4.out)); have e_5 := Aside0.mk (rowNew e_4.out (.cells #[.int .i64 0, .int .i64 0] 28) (#[.int .i64 r2, .int .i64 k2])); have Ne_t := Aside0.mk (Nat.ne_of_lt (blk_lt e_4.out)); have o_5 := Aside0.mk (rowNew o_4.out (.cells #[.int .i64 0, .int .i64 0] 28) (#[.int .i64 r2, .int .i64 k2])); have No_t := Aside0.mk (Nat.ne_of_lt (blk_lt o_4.out)); have m_5 := Aside0.mk (rowNew m_4.out (.cells #[.int .i64 0, .int .i64 0] 28) (#[.int .i64 r2, .int .i64 k2])); have Nm_t := Aside0.mk (Nat.ne_of_lt (blk_lt m_4.out)); have t_5 := Aside0.mk (setRow_heap _ _ _ (#[.int .i64 r2, .int .i64 k2]) _ _ (newBlk w3 (.cells #[.int .i64 0, .int .i64 0] 28))); clear HB_4 n_4 e_4 o_4 m_4)
  | (go_at_call 10; (with_reducible refine (HL.out _ HB_5.out).mono ?_); rintro e w4 ⟨rfl, hb⟩; have HB_6 := Aside0.mk (below_step HB_5.out hb); have n_6 := Aside0.mk (blk_below n_5.out hb); have e_6 := Aside0.mk (blk_below e_5.out hb); have o_6 := Aside0.mk (blk_below o_5.out hb); have m_6 := Aside0.mk (blk_below m_5.out hb); have t_6 := Aside0.mk (blk_below t_5.out hb); clear hb HB_5 n_5 e_5 o_5 m_5 t_5))
 go_ret
 exact ⟨rfl, HB_6.out⟩
theorem follows_no3 (n m : Nd) (x y z r k : Int) (A : Option Addr) (c : Nat) (q r2 k2 ft er : Int) (hq : q = 0) (hr : er = 0) (ht : ¬ft = 0) (w : World)
  (HD : Aside0 (∀ W, Below w.heap.size w W → Calls Tryz.prog 9 #[nodeV n A c] W fun e w' => e = .returned (.bool false) ∧ Below W.heap.size W w'))
  (HL : Aside0 (∀ W, Below w.heap.size w W → Calls Tryz.prog 10 #[] W fun e w' => e = .returned (.bool true) ∧ Below W.heap.size W w'))
  (HM : Aside0 (∀ W, Below w.heap.size w W → Calls Tryz.prog 17 #[nodeV n A c, .agg (edA x y z)] W (NodeIntOut m q W)))
  (HS : Aside0 (∀ W, Calls Tryz.prog 22 #[.agg (edA x y z), .agg #[.int .i64 r, .int .i64 k]] W fun e w' => e = .returned (.tuple #[.agg #[.int .i64 r2, .int .i64 k2], .int .i64 ft, .int .i64 er]) ∧ Below W.heap.size W w')) :
  Calls Tryz.prog 7 #[nodeV n A c, .agg (edA x y z), .agg #[.int .i64 r, .int .i64 k]] w fun e w' => e = .returned (.bool true) ∧ Below w.heap.size w w' := by
 have HB := Aside0.mk (bel3 w (.cells (nodeA n A c) 33) (.cells (edA x y z) 47) (.cells #[.int .i64 r, .int .i64 k] 28))
 have B2 := Aside0.mk (newBlk3a w (.cells (nodeA n A c) 33) (.cells (edA x y z) 47) (.cells #[.int .i64 r, .int .i64 k] 28))
 have B3 := Aside0.mk (newBlk3b w (.cells (nodeA n A c) 33) (.cells (edA x y z) 47) (.cells #[.int .i64 r, .int .i64 k] 28))
 have B4 := Aside0.mk (newBlk3c w (.cells (nodeA n A c) 33) (.cells (edA x y z) 47) (.cells #[.int .i64 r, .int .i64 k] 28))
 go_enter Tryz.func7, Tryz.ntmps7
 go_wp2_with (first
  | ((with_reducible refine gate_dst (N := 20) rfl ?_); refine wpPartLd 20 rfl rfl 33 (.tmp 3) rfl _ rfl _ (nodeA n A c) [] (B2.out) rfl Tryz.underlying33 rfl (by kernel_rfl) ?_)
  | (go_at_call 9; (with_reducible refine (HD.out _ (bel3 w _ _ _)).mono ?_); rintro e w1 ⟨rfl, hb⟩; have HB_1 := Aside0.mk (below_step HB.out hb); have n_1 := Aside0.mk (blk_below B2.out hb); have e_1 := Aside0.mk (blk_below B3.out hb); have o_1 := Aside0.mk (blk_below B4.out hb); clear hb HB B2 B3 B4)
  | ((with_reducible refine gate_dst (N := 24) rfl ?_); refine wpPartLd 24 rfl rfl 33 (.tmp 3) rfl _ rfl _ (nodeA n A c) [] (n_1.out) rfl Tryz.underlying33 rfl (by kernel_rfl) ?_)
  | ((with_reducible refine gate_dst (N := 25) rfl ?_); refine wpPartLd 25 rfl rfl 47 (.tmp 4) rfl _ rfl _ (edA x y z) [] (e_1.out) rfl Tryz.underlying47 rfl (by kernel_rfl) ?_)
  | (go_at_call 17; (with_reducible refine (HM.out _ HB_1.out).mono ?_); rintro e w2 ⟨A2, c2, rfl, hF, hb⟩; have HB_2 := Aside0.mk (below_step HB_1.out hb); have n_2 := Aside0.mk (blk_below n_1.out hb); have e_2 := Aside0.mk (blk_below e_1.out hb); have o_2 := Aside0.mk (blk_below o_1.out hb); have HN := Aside0.mk (heldNew hF); clear hF; clear hb HB_1 n_1 e_1 o_1)
  | ((with_reducible refine gate_store (t := 33) (p := 7) (v := .tmp 27) rfl ?_); refine wpRowSt rfl 33 (.tmp 7) (.tmp 27) rfl (w2.heap.size) (nodeA m A2 c2) rfl rfl 33 _ (newBlk w2 _) (by kernel_rfl) rfl rfl ?_; have HB_3 := Aside0.mk (rowBelow (below_alloc HB_2.out (.cells Z16 33)) HB_2.out.size (nodeA m A2 c2)); have n_3 := Aside0.mk (rowNew n_2.out (.cells Z16 33) (nodeA m A2 c2)); have Nn_m := Aside0.mk (Nat.ne_of_lt (blk_lt n_2.out)); have e_3 := Aside0.mk (rowNew e_2.out (.cells Z16 33) (nodeA m A2 c2)); have Ne_m := Aside0.mk (Nat.ne_of_lt (blk_lt e_2.out)); have o_3 := Aside0.mk (rowNew o_2.out (.cells Z16 33) (nodeA m A2 c2)); have No_m := Aside0.mk (Nat.ne_of_lt (blk_lt o_2.out)); have m_3 := Aside0.mk (setRow_heap _ _ _ (nodeA m A2 c2) _ _ (newBlk w2 (.cells Z16 33))); clear HB_2 n_2 e_2 o_2)
  | ((with_reducible refine gate_dst (N := 30) rfl ?_); refine wpPartLd 30 rfl rfl 47 (.tmp 4) rfl _ rfl _ (edA x y z) [] (e_3.out) rfl Tryz.underlying47 rfl (by kernel_rfl) ?_)
  | ((with_reducible refine gate_dst (N := 31) rfl ?_); refine wpPartLd 31 rfl rfl 28 (.tmp 5) rfl _ rfl _ (#[.int .i64 r, .int .i64 k]) [] (o_3.out) rfl Tryz.underlying28 rfl (by kernel_rfl) ?_)
  | (go_at_call 22; (with_reducible refine (HS.out _).mono ?_); rintro e w3 ⟨rfl, hb⟩; have HB_4 := Aside0.mk (below_step HB_3.out hb); have n_4 := Aside0.mk (blk_below n_3.out hb); have e_4 := Aside0.mk (blk_below e_3.out hb); have o_4 := Aside0.mk (blk_below o_3.out hb); have m_4 := Aside0.mk (blk_below m_3.out hb); have HN3 := Aside0.mk (HN.out.below hb); clear HN; clear hb HB_3 n_3 e_3 o_3 m_3)
  | ((with_reducible refine gate_store (t := 28) (p := 9) (v := .tmp 33) rfl ?_); refine wpRowSt rfl 28 (.tmp 9) (.tmp 33) rfl (w3.heap.size) (#[.int .i64 r2, .int .i64 k2]) rfl rfl 28 _ (newBlk w3 _) (by kernel_rfl) rfl rfl ?_; have HB_5 := Aside0.mk (rowBelow (below_alloc HB_4.out (.cells #[.int .i64 0, .int .i64 0] 28)) HB_4.out.size (#[.int .i64 r2, .int .i64 k2])); have n_5 := Aside0.mk (rowNew n_4.out (.cells #[.int .i64 0, .int .i64 0] 28) (#[.int .i64 r2, .int .i64 k2])); have Nn_t := Aside0.mk (Nat.ne_of_lt (blk_lt n_4.out)); have e_5 := Aside0.mk (rowNew e_4.out (.cells #[.int .i64 0, .int .i64 0] 28) (#[.int .i64 r2, .int .i64 k2])); have Ne_t := Aside0.mk (Nat.ne_of_lt (blk_lt e_4.out)); have o_5 := Aside0.mk (rowNew o_4.out (.cells #[.int .i64 0, .int .i64 0] 28) (#[.int .i64 r2, .int .i64 k2])); have No_t := Aside0.mk (Nat.ne_of_lt (blk_lt o_4.out)); have m_5 := Aside0.mk (rowNew m_4.out (.cells #[.int .i64 0, .int .i64 0] 28) (#[.int .i64 r2, .int .i64 k2])); have Nm_t := Aside0.mk (Nat.ne_of_lt (blk_lt m_4.out)); have t_5 := Aside0.mk (setRow_heap _ _ _ (#[.int .i64 r2, .int .i64 k2]) _ _ (newBlk w3 (.cells #[.int .i64 0, .int .i64 0] 28))); clear HB_4 n_4 e_4 o_4 m_4)
  | (go_at_call 10; (with_reducible refine (HL.out _ HB_5.out).mono ?_); rintro e w4 ⟨rfl, hb⟩; have HB_6 := Aside0.mk (below_step HB_5.out hb); have n_6 := Aside0.mk (blk_below n_5.out hb); have e_6 := Aside0.mk (blk_below e_5.out hb); have o_6 := Aside0.mk (blk_below o_5.out hb); have m_6 := Aside0.mk (blk_below m_5.out hb); have t_6 := Aside0.mk (blk_below t_5.out hb); clear hb HB_5 n_5 e_5 o_5 m_5 t_5))
 go_ret
 exact ⟨rfl, HB_6.out⟩
theorem follows_go (n m : Nd) (x y z r k : Int) (A : Option Addr) (c : Nat) (r2 k2 : Int) (l1 l2 : List S_R) (HN1 : Aside0 (l1.length ≤ 4096)) (HN2 : Aside0 (l2.length ≤ 4096)) (hi : l1.any (fun v => inB v r k) = l2.any (fun v => inB v r2 k2)) (w : World)
  (HD : Aside0 (∀ W, Below w.heap.size w W → Calls Tryz.prog 9 #[nodeV n A c] W fun e w' => e = .returned (.bool false) ∧ Below W.heap.size W w'))
  (HL : Aside0 (∀ W, Below w.heap.size w W → Calls Tryz.prog 10 #[] W fun e w' => e = .returned (.bool true) ∧ Below W.heap.size W w'))
  (HM : Aside0 (∀ W, Below w.heap.size w W → Calls Tryz.prog 17 #[nodeV n A c, .agg (edA x y z)] W (NodeIntOut m 0 W)))
  (HS : Aside0 (∀ W, Calls Tryz.prog 22 #[.agg (edA x y z), .agg #[.int .i64 r, .int .i64 k]] W fun e w' => e = .returned (.tuple #[.agg #[.int .i64 r2, .int .i64 k2], .int .i64 0, .int .i64 0]) ∧ Below W.heap.size W w'))
  (HR1 : Aside0 (∀ W, Below w.heap.size w W → Calls Tryz.prog 23 #[nodeV n A c] W fun e w' => (∃ A_ c_, e = .returned (.tuple #[.slice A_ l1.length c_, .int .i64 0]) ∧ l1.length ≤ c_ ∧ Kd.C k64 w' A_ l1.length l1) ∧ Below W.heap.size W w'))
  (HR2 : Aside0 (∀ W A_ c_, Below w.heap.size w W → KidsC W A_ c_ m.f5 → Calls Tryz.prog 23 #[nodeV m A_ c_] W fun e w' => (∃ B_ e_, e = .returned (.tuple #[.slice B_ l2.length e_, .int .i64 0]) ∧ l2.length ≤ e_ ∧ Kd.C k64 w' B_ l2.length l2) ∧ Below W.heap.size W w'))
  (HI : Aside0 (∀ (v : S_R) (y_ x_ : Int) W, Calls Tryz.prog 24 #[.agg #[.int .i64 v.f0, .int .i64 v.f1, .int .i64 v.f2, .int .i64 v.f3], .agg #[.int .i64 y_, .int .i64 x_]] W fun e w' => e = .returned (.bool (inB v y_ x_)) ∧ Below W.heap.size W w')) :
  Calls Tryz.prog 7 #[nodeV n A c, .agg (edA x y z), .agg #[.int .i64 r, .int .i64 k]] w fun e w' => e = .returned (.bool true) ∧ Below w.heap.size w w' := by
 have HB := Aside0.mk (bel3 w (.cells (nodeA n A c) 33) (.cells (edA x y z) 47) (.cells #[.int .i64 r, .int .i64 k] 28))
 have B2 := Aside0.mk (newBlk3a w (.cells (nodeA n A c) 33) (.cells (edA x y z) 47) (.cells #[.int .i64 r, .int .i64 k] 28))
 have B3 := Aside0.mk (newBlk3b w (.cells (nodeA n A c) 33) (.cells (edA x y z) 47) (.cells #[.int .i64 r, .int .i64 k] 28))
 have B4 := Aside0.mk (newBlk3c w (.cells (nodeA n A c) 33) (.cells (edA x y z) 47) (.cells #[.int .i64 r, .int .i64 k] 28))
 go_enter Tryz.func7, Tryz.ntmps7
 go_wp2_with (first
  | ((with_reducible refine gate_dst (N := 20) rfl ?_); refine wpPartLd 20 rfl rfl 33 (.tmp 3) rfl _ rfl _ (nodeA n A c) [] (B2.out) rfl Tryz.underlying33 rfl (by kernel_rfl) ?_)
  | (go_at_call 9; (with_reducible refine (HD.out _ (bel3 w _ _ _)).mono ?_); rintro e w1 ⟨rfl, hb⟩; have HB_1 := Aside0.mk (below_step HB.out hb); have n_1 := Aside0.mk (blk_below B2.out hb); have e_1 := Aside0.mk (blk_below B3.out hb); have o_1 := Aside0.mk (blk_below B4.out hb); clear hb HB B2 B3 B4)
  | ((with_reducible refine gate_dst (N := 24) rfl ?_); refine wpPartLd 24 rfl rfl 33 (.tmp 3) rfl _ rfl _ (nodeA n A c) [] (n_1.out) rfl Tryz.underlying33 rfl (by kernel_rfl) ?_)
  | ((with_reducible refine gate_dst (N := 25) rfl ?_); refine wpPartLd 25 rfl rfl 47 (.tmp 4) rfl _ rfl _ (edA x y z) [] (e_1.out) rfl Tryz.underlying47 rfl (by kernel_rfl) ?_)
  | (go_at_call 17; (with_reducible refine (HM.out _ HB_1.out).mono ?_); rintro e w2 ⟨A2, c2, rfl, hF, hb⟩; have HB_2 := Aside0.mk (below_step HB_1.out hb); have n_2 := Aside0.mk (blk_below n_1.out hb); have e_2 := Aside0.mk (blk_below e_1.out hb); have o_2 := Aside0.mk (blk_below o_1.out hb); have HN := Aside0.mk (heldNew hF); clear hF; clear hb HB_1 n_1 e_1 o_1)
  | ((with_reducible refine gate_store (t := 33) (p := 7) (v := .tmp 27) rfl ?_); refine wpRowSt rfl 33 (.tmp 7) (.tmp 27) rfl (w2.heap.size) (nodeA m A2 c2) rfl rfl 33 _ (newBlk w2 _) (by kernel_rfl) rfl rfl ?_; have HB_3 := Aside0.mk (rowBelow (below_alloc HB_2.out (.cells Z16 33)) HB_2.out.size (nodeA m A2 c2)); have n_3 := Aside0.mk (rowNew n_2.out (.cells Z16 33) (nodeA m A2 c2)); have Nn_m := Aside0.mk (Nat.ne_of_lt (blk_lt n_2.out)); have e_3 := Aside0.mk (rowNew e_2.out (.cells Z16 33) (nodeA m A2 c2)); have Ne_m := Aside0.mk (Nat.ne_of_lt (blk_lt e_2.out)); have o_3 := Aside0.mk (rowNew o_2.out (.cells Z16 33) (nodeA m A2 c2)); have No_m := Aside0.mk (Nat.ne_of_lt (blk_lt o_2.out)); have m_3 := Aside0.mk (setRow_heap _ _ _ (nodeA m A2 c2) _ _ (newBlk w2 (.cells Z16 33))); clear HB_2 n_2 e_2 o_2)
  | ((with_reducible refine gate_dst (N := 30) rfl ?_); refine wpPartLd 30 rfl rfl 47 (.tmp 4) rfl _ rfl _ (edA x y z) [] (e_3.out) rfl Tryz.underlying47 rfl (by kernel_rfl) ?_)
  | ((with_reducible refine gate_dst (N := 31) rfl ?_); refine wpPartLd 31 rfl rfl 28 (.tmp 5) rfl _ rfl _ (#[.int .i64 r, .int .i64 k]) [] (o_3.out) rfl Tryz.underlying28 rfl (by kernel_rfl) ?_)
  | (go_at_call 22; (with_reducible refine (HS.out _).mono ?_); rintro e w3 ⟨rfl, hb⟩; have HB_4 := Aside0.mk (below_step HB_3.out hb); have n_4 := Aside0.mk (blk_below n_3.out hb); have e_4 := Aside0.mk (blk_below e_3.out hb); have o_4 := Aside0.mk (blk_below o_3.out hb); have m_4 := Aside0.mk (blk_below m_3.out hb); have HN3 := Aside0.mk (HN.out.below hb); clear HN; clear hb HB_3 n_3 e_3 o_3 m_3)
  | ((with_reducible refine gate_store (t := 28) (p := 9) (v := .tmp 33) rfl ?_); refine wpRowSt rfl 28 (.tmp 9) (.tmp 33) rfl (w3.heap.size) (#[.int .i64 r2, .int .i64 k2]) rfl rfl 28 _ (newBlk w3 _) (by kernel_rfl) rfl rfl ?_; have HB_5 := Aside0.mk (rowBelow (below_alloc HB_4.out (.cells #[.int .i64 0, .int .i64 0] 28)) HB_4.out.size (#[.int .i64 r2, .int .i64 k2])); have n_5 := Aside0.mk (rowNew n_4.out (.cells #[.int .i64 0, .int .i64 0] 28) (#[.int .i64 r2, .int .i64 k2])); have Nn_t := Aside0.mk (Nat.ne_of_lt (blk_lt n_4.out)); have e_5 := Aside0.mk (rowNew e_4.out (.cells #[.int .i64 0, .int .i64 0] 28) (#[.int .i64 r2, .int .i64 k2])); have Ne_t := Aside0.mk (Nat.ne_of_lt (blk_lt e_4.out)); have o_5 := Aside0.mk (rowNew o_4.out (.cells #[.int .i64 0, .int .i64 0] 28) (#[.int .i64 r2, .int .i64 k2])); have No_t := Aside0.mk (Nat.ne_of_lt (blk_lt o_4.out)); have m_5 := Aside0.mk (rowNew m_4.out (.cells #[.int .i64 0, .int .i64 0] 28) (#[.int .i64 r2, .int .i64 k2])); have Nm_t := Aside0.mk (Nat.ne_of_lt (blk_lt m_4.out)); have t_5 := Aside0.mk (setRow_heap _ _ _ (#[.int .i64 r2, .int .i64 k2]) _ _ (newBlk w3 (.cells #[.int .i64 0, .int .i64 0] 28))); clear HB_4 n_4 e_4 o_4 m_4)
  | ((with_reducible refine gate_dst (N := 48) rfl ?_); refine wpPartLd 48 rfl rfl 33 (.tmp 3) rfl _ rfl _ (nodeA n A c) [] (n_5.out) rfl Tryz.underlying33 rfl (by kernel_rfl) ?_)
  | (go_at_call 23; (with_reducible refine (HR1.out _ HB_5.out).mono ?_); rintro e w4 ⟨⟨A5, c5, rfl, hl5, hC5⟩, hb⟩; have HB_6 := Aside0.mk (below_step HB_5.out hb); have n_6 := Aside0.mk (blk_below n_5.out hb); have e_6 := Aside0.mk (blk_below e_5.out hb); have o_6 := Aside0.mk (blk_below o_5.out hb); have m_6 := Aside0.mk (blk_below m_5.out hb); have t_6 := Aside0.mk (blk_below t_5.out hb); have HN4 := Aside0.mk ((HN3.out.store #[.int .i64 r2, .int .i64 k2] (.cells #[.int .i64 0, .int .i64 0] 28)).below hb); clear HN3; have HC5 := Aside0.mk hC5; have HL5 := Aside0.mk hl5; clear hC5 hl5; clear hb HB_5 n_5 e_5 o_5 m_5 t_5)
  | ((with_reducible refine gate_dst (N := 53) rfl ?_); refine wpPartLd 53 rfl rfl 33 (.tmp 7) rfl _ rfl _ (nodeA m A2 c2) [] (m_6.out) rfl Tryz.underlying33 rfl (by kernel_rfl) ?_)
  | (go_at_call 23; (with_reducible refine (HR2.out _ _ _ HB_6.out (HN4.out.now)).mono ?_); rintro e w5 ⟨⟨A6, c6, rfl, hl6, hC6⟩, hb⟩; have HB_7 := Aside0.mk (below_step HB_6.out hb); have n_7 := Aside0.mk (blk_below n_6.out hb); have e_7 := Aside0.mk (blk_below e_6.out hb); have o_7 := Aside0.mk (blk_below o_6.out hb); have m_7 := Aside0.mk (blk_below m_6.out hb); have t_7 := Aside0.mk (blk_below t_6.out hb); have HC6 := Aside0.mk hC6; have HL6 := Aside0.mk hl6; have HC7 := Aside0.mk (Kd.C_below HC5.out hb); clear hC6 hl6 HC5; clear hb HB_6 n_6 e_6 o_6 m_6 t_6))
 go_loopg [16, 18] l1.length (fun kq v16 v18 w' => ∃ (i : Nat), v16 = .bool ((l1.take i).any (fun v => inB v r k)) ∧ v18 = .int .i64 (i : Int) ∧ Aside0 (i + kq = l1.length) ∧ Aside0 (Kd.C k64 w' A5 l1.length l1) ∧ Aside0 (Kd.C k64 w' A6 l2.length l2) ∧ Aside0 (w'.heap[w.heap.size + 2]? = some (.cells #[.int .i64 r, .int .i64 k] 28 (0, 0))) ∧ Aside0 (w'.heap[w3.heap.size]? = some (.cells #[.int .i64 r2, .int .i64 k2] 28 (0, 0))) ∧ Aside0 (Below w.heap.size w w'))
 case atStart => exact ⟨0, (by simp), (by simp), ⟨by omega⟩, HC7, HC6, o_7, t_7, HB_7⟩
 case round =>
  obtain ⟨i, rfl, rfl, HK1, D5, D6, GO, GT, GB⟩ := hrel
  have hat := fun i_ => blk_cell GO.out i_
  cases gk with
  | zero =>
   have e0 : i = l1.length := by have := HK1.out; omega
   have c4 : decide ((i : Int) < (l1.length : Int)) = false := decide_eq_false (by omega)
   go_wp2
   clear hat
   go_loopg [17, 19] l2.length (fun kq v17 v19 w' => ∃ (j : Nat), v17 = .bool ((l2.take j).any (fun v => inB v r2 k2)) ∧ v19 = .int .i64 (j : Int) ∧ Aside0 (j + kq = l2.length) ∧ Aside0 (Kd.C k64 w' A6 l2.length l2) ∧ Aside0 (w'.heap[w3.heap.size]? = some (.cells #[.int .i64 r2, .int .i64 k2] 28 (0, 0))) ∧ Aside0 (Below w.heap.size w w'))
   case atStart => exact ⟨0, (by simp), (by simp), ⟨by omega⟩, D6, GT, GB⟩
   case round =>
    clear D5 D6 GO GT GB
    obtain ⟨j, rfl, rfl, HK2, D6, GT, GB⟩ := hrel
    have hat := fun i_ => blk_cell GT.out i_
    cases gk with
    | zero =>
     have e2 : j = l2.length := by have := HK2.out; omega
     have c5 : decide ((j : Int) < (l2.length : Int)) = false := decide_eq_false (by omega)
     have hq : (l1.take i).any (fun v => inB v r k) = (l2.take j).any (fun v => inB v r2 k2) := by rw [e0, e2, List.take_length, List.take_length, hi]
     rw [hq]
     generalize (l2.take j).any (fun v => inB v r2 k2) = sB
     clear hat hq
     go_wp2_with (first
      | (go_at_call 10; (with_reducible refine (HL.out _ GB.out).mono ?_); rintro e w8 ⟨rfl, hb⟩; have HE := Aside0.mk (below_step GB.out hb); clear hb))
     go_ret
     exact ⟨rfl, HE.out⟩
    | succ k1 =>
     have e1 : j < l2.length := by have := HK2.out; omega
     have c5 : decide ((j : Int) < (l2.length : Int)) = true := decide_eq_true (by omega)
     by_cases hz : (l2.take j).any (fun v => inB v r2 k2) = true
     ·rw [hz]
      go_wp2
      refine start_ (n := 10) (S := fun w' => True) (ds := []) (Array.replicate 10 false) (by kernel_rfl) rfl rfl trivial (fun hHeld => ?_)
      refine with_tabW follows17.tab17 follows17.bits17 (fun HT_ HW_ => ?_)
      refine pz 0 78 HT_ ?_; refine pz 1 79 HT_ ?_; refine uz 2 80 HT_ ?_; refine uz 3 81 HT_ ?_; refine uz 4 82 HT_ ?_; refine uz 5 83 HT_ ?_; refine uz 6 84 HT_ ?_; refine uz 7 85 HT_ ?_; refine pz 8 86 HT_ ?_; refine pz 9 17 HT_ ?_
      refine done_ (done_of HT_.out (by kernel_rfl)) ?_
      go_wp2
      go_roundg k1
      case measure => omega
      case rel => exact ⟨j + 1, by rw [any_take_succ _ e1, hz]; rfl, by rw [show wrap64 ((j : Int) + 1) = ((j + 1 : Nat) : Int) by have := HN2.out; unfold wrap64; omega], ⟨by have := HK2.out; omega⟩, ⟨Kd.C_drew D6.out⟩, ⟨blk_drew GT.out⟩, ⟨below_drew1 GB.out⟩⟩
     ·rw [Bool.eq_false_iff.2 hz]
      go_wp2
      have hrd : rd_T64 l2 (j : Int) = l2[j] := by
       unfold rd_T64
       rw [Int.toNat_natCast, List.getD_eq_getElem?_getD, List.getElem?_eq_getElem e1]; rfl
      obtain ⟨ad, rfl, v0, v1, v2, v3⟩ := at_T64 D6.out (j : Int) (by omega) (by omega)
      rw [hrd] at v0 v1 v2 v3
      have a0 : wr.cell? ⟨w3.heap.size, 0, none⟩ = some (.int .i64 r2) := (blk_cell GT.out 0).trans rfl
      have a1 : wr.cell? ⟨w3.heap.size, 1, none⟩ = some (.int .i64 k2) := (blk_cell GT.out 1).trans rfl
      clear hat
      refine start_ (n := 10) (S := fun w' => w'.cell? (ad.add (j * 4)) = some (.int .i64 (l2[j]).f0) ∧ w'.cell? ⟨(ad.add (j * 4)).block, (ad.add (j * 4)).off + 1, none⟩ = some (.int .i64 (l2[j]).f1) ∧ w'.cell? ⟨(ad.add (j * 4)).block, (ad.add (j * 4)).off + 2, none⟩ = some (.int .i64 (l2[j]).f2) ∧ w'.cell? ⟨(ad.add (j * 4)).block, (ad.add (j * 4)).off + 3, none⟩ = some (.int .i64 (l2[j]).f3) ∧ w'.cell? ⟨w3.heap.size, 0, none⟩ = some (.int .i64 r2) ∧ w'.cell? ⟨w3.heap.size, 1, none⟩ = some (.int .i64 k2) ∧ Below wr.heap.size wr w') (ds := []) (Array.replicate 10 false) (by kernel_rfl) rfl rfl ⟨v0, v1, v2, v3, a0, a1, below_drew1 (Below.refl _ _)⟩ (fun hHeld => ?_)
      refine with_tabW follows17.tab17 follows17.bits17 (fun HT_ HW_ => ?_)
      refine pz 0 78 HT_ ?_; refine pz 1 79 HT_ ?_; refine pz 2 80 HT_ ?_; refine pz 3 81 HT_ ?_; refine pz 4 82 HT_ ?_
      refine tz 5 83 HT_ HW_ (hr := (by rintro w' ⟨s1, s2, s3, s4, s5, s6, s7⟩; go_simp; with_reducible rfl)) (hS := hHeld) (h := ?_)
      refine tz 6 84 HT_ HW_ (hr := (by rintro w' ⟨s1, s2, s3, s4, s5, s6, s7⟩; go_simp; with_reducible rfl)) (hS := hHeld) (h := ?_)
      refine oneI 7 (some 85) HT_ rfl rfl (by kernel_rfl) (by decide) (fun K hK => ?_)
      refine goes_ Tryz.func24 (by kernel_rfl) rfl #[.agg #[.int .i64 (l2[j]).f0, .int .i64 (l2[j]).f1, .int .i64 (l2[j]).f2, .int .i64 (l2[j]).f3], .agg #[.int .i64 r2, .int .i64 k2]] (by (try simp only [List.map_toArray, List.map_cons, List.map_nil]); first | done | rfl) rfl rfl (by first | rfl | ((try simp only [List.map_toArray, List.map_cons, List.map_nil]); first | done | rfl)) ?_
      with_reducible refine (HI.out (l2[j]) r2 k2 _).mono ?_
      rintro e w9 ⟨rfl, hb⟩
      refine ⟨_, rfl, ?_⟩
      refine hK.out _ _ ⟨(hb.cell (World.block_lt_of_cell? _ _ hHeld.1)).trans hHeld.1, (hb.cell (World.block_lt_of_cell? _ _ hHeld.2.1)).trans hHeld.2.1, (hb.cell (World.block_lt_of_cell? _ _ hHeld.2.2.1)).trans hHeld.2.2.1, (hb.cell (World.block_lt_of_cell? _ _ hHeld.2.2.2.1)).trans hHeld.2.2.2.1, (hb.cell (World.block_lt_of_cell? _ _ hHeld.2.2.2.2.1)).trans hHeld.2.2.2.2.1, (hb.cell (World.block_lt_of_cell? _ _ hHeld.2.2.2.2.2.1)).trans hHeld.2.2.2.2.2.1, below_step hHeld.2.2.2.2.2.2 hb⟩ (fun hHeld => ?_)
      clear hK K
      refine nz 85 ?_
      refine pz 8 86 HT_ ?_; refine pz 9 17 HT_ ?_
      refine done_ (done_of HT_.out (by kernel_rfl)) ?_
      have HQ := Aside0.mk hHeld.2.2.2.2.2.2
      clear hHeld
      go_wp2
      go_roundg k1
      case measure => omega
      case rel => exact ⟨j + 1, by rw [any_take_succ _ e1, Bool.eq_false_iff.2 hz]; rfl, by rw [show wrap64 ((j : Int) + 1) = ((j + 1 : Nat) : Int) by have := HN2.out; unfold wrap64; omega], ⟨by have := HK2.out; omega⟩, ⟨Kd.C_below D6.out HQ.out⟩, ⟨blk_below GT.out HQ.out⟩, ⟨below_step GB.out HQ.out⟩⟩
  | succ k1 =>
   have e1 : i < l1.length := by have := HK1.out; omega
   have c4 : decide ((i : Int) < (l1.length : Int)) = true := decide_eq_true (by omega)
   by_cases hz : (l1.take i).any (fun v => inB v r k) = true
   ·rw [hz]
    go_wp2
    refine start_ (n := 10) (S := fun w' => True) (ds := []) (Array.replicate 10 false) (by kernel_rfl) rfl rfl trivial (fun hHeld => ?_)
    refine with_tabW follows13.tab13 follows13.bits13 (fun HT_ HW_ => ?_)
    refine pz 0 63 HT_ ?_; refine pz 1 64 HT_ ?_; refine uz 2 65 HT_ ?_; refine uz 3 66 HT_ ?_; refine uz 4 67 HT_ ?_; refine uz 5 68 HT_ ?_; refine uz 6 69 HT_ ?_; refine uz 7 70 HT_ ?_; refine pz 8 71 HT_ ?_; refine pz 9 16 HT_ ?_
    refine done_ (done_of HT_.out (by kernel_rfl)) ?_
    go_wp2
    go_roundg k1
    case measure => omega
    case rel => exact ⟨i + 1, by rw [any_take_succ _ e1, hz]; rfl, by rw [show wrap64 ((i : Int) + 1) = ((i + 1 : Nat) : Int) by have := HN1.out; unfold wrap64; omega], ⟨by have := HK1.out; omega⟩, ⟨Kd.C_drew D5.out⟩, ⟨Kd.C_drew D6.out⟩, ⟨blk_drew GO.out⟩, ⟨blk_drew GT.out⟩, ⟨below_drew1 GB.out⟩⟩
   ·rw [Bool.eq_false_iff.2 hz]
    go_wp2
    have hrd : rd_T64 l1 (i : Int) = l1[i] := by
     unfold rd_T64
     rw [Int.toNat_natCast, List.getD_eq_getElem?_getD, List.getElem?_eq_getElem e1]; rfl
    obtain ⟨ad, rfl, v0, v1, v2, v3⟩ := at_T64 D5.out (i : Int) (by omega) (by omega)
    rw [hrd] at v0 v1 v2 v3
    have hlt := World.block_lt_of_cell? _ _ v0
    have DC := Aside0.mk (Below.refl wr.heap.size wr)
    have a0 : wr.cell? ⟨w.heap.size + 2, 0, none⟩ = some (.int .i64 r) := (blk_cell GO.out 0).trans rfl
    have a1 : wr.cell? ⟨w.heap.size + 2, 1, none⟩ = some (.int .i64 k) := (blk_cell GO.out 1).trans rfl
    clear hat
    refine start_ (n := 10) (S := fun w' => w'.cell? (ad.add (i * 4)) = some (.int .i64 (l1[i]).f0) ∧ w'.cell? ⟨(ad.add (i * 4)).block, (ad.add (i * 4)).off + 1, none⟩ = some (.int .i64 (l1[i]).f1) ∧ w'.cell? ⟨(ad.add (i * 4)).block, (ad.add (i * 4)).off + 2, none⟩ = some (.int .i64 (l1[i]).f2) ∧ w'.cell? ⟨(ad.add (i * 4)).block, (ad.add (i * 4)).off + 3, none⟩ = some (.int .i64 (l1[i]).f3) ∧ w'.cell? ⟨w.heap.size + 2, 0, none⟩ = some (.int .i64 r) ∧ w'.cell? ⟨w.heap.size + 2, 1, none⟩ = some (.int .i64 k) ∧ Below wr.heap.size wr w') (ds := []) (Array.replicate 10 false) (by kernel_rfl) rfl rfl ⟨v0, v1, v2, v3, a0, a1, below_drew1 (Below.refl _ _)⟩ (fun hHeld => ?_)
    refine with_tabW follows13.tab13 follows13.bits13 (fun HT_ HW_ => ?_)
    refine pz 0 63 HT_ ?_; refine pz 1 64 HT_ ?_; refine pz 2 65 HT_ ?_; refine pz 3 66 HT_ ?_; refine pz 4 67 HT_ ?_
    refine tz 5 68 HT_ HW_ (hr := (by rintro w' ⟨s1, s2, s3, s4, s5, s6, s7⟩; go_simp; with_reducible rfl)) (hS := hHeld) (h := ?_)
    refine tz 6 69 HT_ HW_ (hr := (by rintro w' ⟨s1, s2, s3, s4, s5, s6, s7⟩; go_simp; with_reducible rfl)) (hS := hHeld) (h := ?_)
    refine oneI 7 (some 70) HT_ rfl rfl (by kernel_rfl) (by decide) (fun K hK => ?_)
    refine goes_ Tryz.func24 (by kernel_rfl) rfl #[.agg #[.int .i64 (l1[i]).f0, .int .i64 (l1[i]).f1, .int .i64 (l1[i]).f2, .int .i64 (l1[i]).f3], .agg #[.int .i64 r, .int .i64 k]] (by (try simp only [List.map_toArray, List.map_cons, List.map_nil]); first | done | rfl) rfl rfl (by first | rfl | ((try simp only [List.map_toArray, List.map_cons, List.map_nil]); first | done | rfl)) ?_
    with_reducible refine (HI.out (l1[i]) r k _).mono ?_
    rintro e w9 ⟨rfl, hb⟩
    refine ⟨_, rfl, ?_⟩
    refine hK.out _ _ ⟨(hb.cell (World.block_lt_of_cell? _ _ hHeld.1)).trans hHeld.1, (hb.cell (World.block_lt_of_cell? _ _ hHeld.2.1)).trans hHeld.2.1, (hb.cell (World.block_lt_of_cell? _ _ hHeld.2.2.1)).trans hHeld.2.2.1, (hb.cell (World.block_lt_of_cell? _ _ hHeld.2.2.2.1)).trans hHeld.2.2.2.1, (hb.cell (World.block_lt_of_cell? _ _ hHeld.2.2.2.2.1)).trans hHeld.2.2.2.2.1, (hb.cell (World.block_lt_of_cell? _ _ hHeld.2.2.2.2.2.1)).trans hHeld.2.2.2.2.2.1, below_step hHeld.2.2.2.2.2.2 hb⟩ (fun hHeld => ?_)
    clear hK K
    refine nz 70 ?_
    refine pz 8 71 HT_ ?_; refine pz 9 16 HT_ ?_
    refine done_ (done_of HT_.out (by kernel_rfl)) ?_
    have HQ := Aside0.mk hHeld.2.2.2.2.2.2
    clear hHeld
    go_wp2
    go_roundg k1
    case measure => omega
    case rel => exact ⟨i + 1, by rw [any_take_succ _ e1, Bool.eq_false_iff.2 hz]; rfl, by rw [show wrap64 ((i : Int) + 1) = ((i + 1 : Nat) : Int) by have := HN1.out; unfold wrap64; omega], ⟨by have := HK1.out; omega⟩, ⟨Kd.C_below D5.out HQ.out⟩, ⟨Kd.C_below D6.out HQ.out⟩, ⟨blk_below GO.out HQ.out⟩, ⟨blk_below GT.out HQ.out⟩, ⟨below_step GB.out HQ.out⟩⟩
theorem placeIn_B (q : S_R) (y x : Int) : place_In.f q.f0 q.f1 q.f2 q.f3 y x = some (inB q y x) := by
 unfold place_In.f inB
 rw [placeCheck_B]
 simp only [Option.bind_some]
 cases rectB q.f0 q.f1 q.f2 q.f3 with
 | false => rfl
 | true =>
  by_cases h1 : q.f0 ≤ y
  ·by_cases h2 : y ≤ q.f2
   ·by_cases h3 : q.f1 ≤ x
    ·simp [h1, h2, h3]
    ·simp [h1, h2, h3]
   ·simp [h1, h2]
  ·simp [h1]
theorem RewriteFollows_node (n : Nd) (x y z r k : Int) (A : Option Addr) (c : Nat) (w : World) (hK : KidsC w A c n.f5) (hL0 : Aside0 (LaidW w)) :
  Calls Tryz.prog 7 #[nodeV n A c, .agg (edA x y z), .agg #[.int .i64 r, .int .i64 k]] w fun e w' => e = .returned (.bool true) ∧ Below w.heap.size w w' := by
 have HL : Aside0 (∀ W, Below w.heap.size w W → Calls Tryz.prog 10 #[] W fun e w' => e = .returned (.bool true) ∧ Below W.heap.size W w') := ⟨fun W hW => lives_calls W (LaidAt hL0 hW)⟩
 by_cases hd : depthI n = 0
 ·exact follows_deep n n x y z r k A c w ⟨deep_yes hd hK⟩ HL
 have HM : ∀ W, Below w.heap.size w W → Calls Tryz.prog 17 #[nodeV n A c, .agg (edA x y z)] W (NodeIntOut (moveN x y z n) (moveE x y z n) W) := fun W hW => move_calls x y z n A c W (hK.below hW) (LaidAt hL0 hW)
 have HS := fun W => spot_calls x y z r k W
 by_cases h1 : moveE x y z n = 0
 ·by_cases h2 : (spotS x y z r k).2.2 = 0
  ·by_cases h3 : (spotS x y z r k).2.1 = 0
   ·have hc : checkI n = 0 := by
     unfold moveE at h1
     by_cases q : checkI n = 0
     ·exact q
     ·rw [if_neg q] at h1; exact absurd h1 q
    have hp : placeB r k = true ∧ edB x y z = true := by
     unfold spotS at h2
     by_cases q : placeB r k = true ∧ edB x y z = true
     ·exact q
     ·rw [if_neg q] at h2; cases h2
    have hm := move_check hp.2 hc
    have e1 : moveN x y z n = moveS x y z n := moveN_S h1
    have hf := follows_in hp.2 hp.1 h3 hc
    rw [h1, e1] at HM
    rw [h2, h3] at HS
    have n1 := Nat.le_trans (outS_length (preN n)) (pre_few hc)
    have n2 := Nat.le_trans (outS_length (preN (moveS x y z n))) (pre_few hm)
    refine follows_go n (moveS x y z n) x y z r k A c (spotS x y z r k).1.1 (spotS x y z r k).1.2 (outS (preN n)) (outS (preN (moveS x y z n))) ⟨n1⟩ ⟨n2⟩ hf w ⟨deep_no hd hK⟩ HL ⟨HM⟩ ⟨HS⟩ ⟨fun W hW => ?_⟩ ⟨fun W A_ c_ hW h => ?_⟩ ⟨fun v y_ x_ W => place_In.calls _ _ _ _ _ _ _ W (placeIn_B v y_ x_)⟩
    ·refine (rects_ok n A c W (hK.below hW) hc (LaidAt hL0 hW)).mono ?_
     rintro e w' ⟨⟨A2, c2, rfl, hl, hC, _⟩, hb⟩
     exact ⟨⟨A2, c2, rfl, hl, hC⟩, hb⟩
    ·refine (rects_ok _ A_ c_ W h hm (LaidAt hL0 hW)).mono ?_
     rintro e w' ⟨⟨A2, c2, rfl, hl, hC, _⟩, hb⟩
     exact ⟨⟨A2, c2, rfl, hl, hC⟩, hb⟩
   ·exact follows_no3 n _ x y z r k A c _ _ _ _ _ h1 h2 h3 w ⟨deep_no hd hK⟩ HL ⟨HM⟩ ⟨HS⟩
  ·exact follows_no2 n _ x y z r k A c _ _ _ _ _ h1 h2 w ⟨deep_no hd hK⟩ HL ⟨HM⟩ ⟨HS⟩
 ·exact follows_no1 n _ x y z r k A c _ _ _ _ _ h1 w ⟨deep_no hd hK⟩ HL ⟨HM⟩ ⟨HS⟩
theorem RewriteFollows_walk (n : Nd) (A : Option Addr) (c : Nat) (x y z r k : Int) (w : World) (hK : KidsC w A c n.f5) (hL0 : Aside0 (LaidW w)) :
  Calls Tryz.prog 7 #[nodeV n A c, .agg (edA x y z), .agg #[.int .i64 r, .int .i64 k]] w fun e w' => e = .returned (.bool true) ∧ Below w.heap.size w w' :=
 RewriteFollows_node n x y z r k A c w hK hL0
theorem out_from : ∀ (l : List Nd) (o : List S_R) (q : S_R), q ∈ l.foldl addS o → q ∈ o ∨ ∃ m ∈ l, rgB m = true ∧ q = rcS m
 | [], o, q, h => .inl h
 | x :: r, o, q, h => by
  rw [List.foldl_cons] at h
  rcases out_from r (addS o x) q h with h | ⟨m, hm, h1, h2⟩
  ·unfold addS at h
   by_cases hg : rgB x = true
   ·rw [if_pos hg] at h
    by_cases hm : rcS x ∈ o
    ·rw [if_pos hm] at h; exact .inl h
    ·rw [if_neg hm] at h
     rcases List.mem_append.1 h with h | h
     ·exact .inl h
     ·exact .inr ⟨x, List.mem_cons_self, hg, List.mem_singleton.1 h⟩
   ·rw [if_neg hg] at h; exact .inl h
  ·exact .inr ⟨m, List.mem_cons_of_mem _ hm, h1, h2⟩
theorem out_right {n : Nd} (h : checkI n = 0) (q : S_R) (hq : q ∈ outS (preN n)) : rectB q.f0 q.f1 q.f2 q.f3 = true := by
 rcases out_from (preN n) [] q hq with h0 | ⟨m, hm, hg, rfl⟩
 ·cases h0
 have hsp := spot_of_check h
 rw [← all_pre, List.all_eq_true] at hsp
 have hs := hsp m hm
 unfold spotB at hs
 unfold rcS fR
 by_cases k2 : m.f0 = 2
 ·rw [if_pos k2] at hs
  rw [if_neg (by omega)]
  exact ofS_rect hs hs
 ·rw [if_neg k2] at hs
  by_cases k3 : m.f0 = 3
  ·rw [if_pos k3, Bool.and_eq_true] at hs
   rw [if_pos k3]
   exact ofS_rect hs.1 hs.2
  ·unfold rgB at hg
   simp [k2, k3] at hg
theorem stepF_ins {a b c t : Int} (hi : insB a = true) : stepF a b c t = 0 ∨ stepF a b c t = 2 := by
 unfold stepF
 rw [hi, if_pos rfl]
 repeat' split
 all_goals simp
theorem clips_calls {a b c : Int} (hi : insB a = true) (he : edB a b c = true) (q : S_R) (hR : rectB q.f0 q.f1 q.f2 q.f3 = true) (w : World) :
  Calls Tryz.prog 26 #[.agg (edA a b c), .agg #[.int .i64 q.f0, .int .i64 q.f1, .int .i64 q.f2, .int .i64 q.f3]] w fun e w' => e = .returned (.tuple #[.bool (stepF a b c (farS a q) == 2), .int .i64 0]) ∧ Below w.heap.size w w' := by
 have hc := moveCheck_B a b c
 rw [if_pos he] at hc
 have hp := placeCheck_B q.f0 q.f1 q.f2 q.f3
 rw [if_pos hR] at hp
 have hr := rows_B a b c
 have hin := inserts_B a b c
 rw [hi] at hin
 unfold farS
 cases hq : rowsB a with
 | true => rw [hq] at hr; exact clips_rows a b c q.f0 q.f1 q.f2 q.f3 w ⟨hc⟩ ⟨hp⟩ ⟨hr⟩ ⟨hin⟩
 | false => rw [hq] at hr; exact clips_cols a b c q.f0 q.f1 q.f2 q.f3 w ⟨hc⟩ ⟨hp⟩ ⟨hr⟩ ⟨hin⟩
theorem back_calls {a b c : Int} (hi : insB a = true) (he : edB a b c = true) (w : World) :
  Calls Tryz.prog 25 #[.agg (edA a b c)] w fun e w' => e = .returned (.tuple #[.agg (edA (a + 1) b c), .int .i64 0]) ∧ Below w.heap.size w w' := by
 refine move_Back.calls a b c (a + 1) b c 0 w ?_
 have hc := moveCheck_B a b c
 rw [if_pos he] at hc
 unfold move_Back.f
 rw [hc]
 rcases ins_kinds hi with rfl | rfl
 ·simp only [Option.bind_some, if_true]
  rw [show wrap64 (Go.bits .xor .i64 (wrap64 ((1 : Int) - 1)) 1 + 1) = 1 + 1 by decide +kernel]
 ·simp only [Option.bind_some, if_true]
  rw [show wrap64 (Go.bits .xor .i64 (wrap64 ((3 : Int) - 1)) 1 + 1) = 3 + 1 by decide +kernel]
end Go.Proofs.YthnldbclbfpojaaGreatDoor.Pr
end
