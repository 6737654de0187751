/-
  What the law RShiftsRAlikeRKeeps leans on, out of the texts that were printed and written for this seat: only what its proof mentions (gathered by a program of the author's).
-/
import Derived.Test.YthnldbclbfpojaaGreatDoorSRShiftsRAlikeRKeeps40
import Derived.Test.YthnldbclbfpojaaGreatDoorSRShiftsRAlikeRKeeps23
import Derived.Test.YthnldbclbfpojaaGreatDoorSRShiftsRAlikeRKeeps27
import Derived.Test.YthnldbclbfpojaaGreatDoorSRShiftsRAlikeRKeeps31
set_option maxHeartbeats 8000000
set_option maxRecDepth 100000
set_option linter.unusedVariables false
set_option linter.unusedSimpArgs false
section
namespace Go.Proofs.YthnldbclbfpojaaGreatDoor.Pr
open Go.RowKit Go.Proofs.YthnldbclbfpojaaGreatDoorW.PrintWords Go.Proofs.YthnldbclbfpojaaGreatDoorW.PrintLast Go.Proofs.YthnldbclbfpojaaGreatDoorW.PrintMore
def alike9.T9 : Bool × List (List Nat × List Nat) := (true, [([], []), ([0], [0]), ([], []), ([2, 1], [2]), ([1, 3], [1, 3])])
def alike9.B9 : List Nat := [0, 1, 0, 7, 15]
theorem alike9.tab9 : rtab .any (opsOf Tryz.f4 9) = alike9.T9 := by kernel_rfl
theorem alike9.bits9 : waitsOk alike9.T9.2 alike9.B9 = true := by kernel_rfl
theorem alike_deep (n : Nd) (r k : Int) (A : Option Addr) (c : Nat) (w : World) (HD : Aside0 (∀ W, Below w.heap.size w W → Calls Tryz.prog 9 #[nodeV n A c] W fun e w' => e = .returned (.bool true) ∧ Below W.heap.size W w'))
  (HL : Aside0 (∀ W, Below w.heap.size w W → Calls Tryz.prog 10 #[] W fun e w' => e = .returned (.bool true) ∧ Below W.heap.size W w')) :
  Calls Tryz.prog 4 #[nodeV n A c, .int .i64 r, .int .i64 k] w fun e w' => e = .returned (.bool true) ∧ Below w.heap.size w w' := by
 have HB0 := Aside0.mk (bel1 w (.cells (nodeA n A c) 33))
 have BX_0 := Aside0.mk (newBlk w (.cells (nodeA n A c) 33))
 go_enter Tryz.func4, Tryz.ntmps4
 go_wp2_with (first
  | ((with_reducible refine gate_dst (N := 13) rfl ?_); (refine gate_guard (by rfl) ?_; dsimp only); refine wpPartLd 13 rfl rfl 33 (.tmp 3) rfl _ rfl _ (nodeA n A c) [] (BX_0.out) rfl Tryz.underlying33 rfl (by kernel_rfl) ?_)
  | (go_at_call 9; (with_reducible refine (HD.out _ HB0.out).mono ?_); rintro e x1 ⟨rfl, hb⟩; have HB1 := Aside0.mk (below_step HB0.out hb); have BX_1 := Aside0.mk (blk_below BX_0.out hb); clear hb HB0 BX_0)
  | (go_at_call 10; (with_reducible refine (HL.out _ HB1.out).mono ?_); rintro e x2 ⟨rfl, hb⟩; have HB2 := Aside0.mk (below_step HB1.out hb); have BX_2 := Aside0.mk (blk_below BX_1.out hb); clear hb HB1 BX_1))
 go_ret
 exact ⟨rfl, HB2.out⟩
theorem alike_bad (n : Nd) (r k : Int) (A : Option Addr) (c : Nat) (w : World) (ci : Int) (hci : ¬ci = 0)
  (HD : Aside0 (∀ W, Below w.heap.size w W → Calls Tryz.prog 9 #[nodeV n A c] W fun e w' => e = .returned (.bool false) ∧ Below W.heap.size W w'))
  (HC : Aside0 (∀ W, Below w.heap.size w W → Calls Tryz.prog 15 #[nodeV n A c] W fun e w' => e = .returned (.int .i64 ci) ∧ Below W.heap.size W w'))
  (HL : Aside0 (∀ W, Below w.heap.size w W → Calls Tryz.prog 10 #[] W fun e w' => e = .returned (.bool true) ∧ Below W.heap.size W w')) :
  Calls Tryz.prog 4 #[nodeV n A c, .int .i64 r, .int .i64 k] w fun e w' => e = .returned (.bool true) ∧ Below w.heap.size w w' := by
 have HB0 := Aside0.mk (bel1 w (.cells (nodeA n A c) 33))
 have BX_0 := Aside0.mk (newBlk w (.cells (nodeA n A c) 33))
 go_enter Tryz.func4, Tryz.ntmps4
 go_wp2_with (first
  | ((with_reducible refine gate_dst (N := 13) rfl ?_); (refine gate_guard (by rfl) ?_; dsimp only); refine wpPartLd 13 rfl rfl 33 (.tmp 3) rfl _ rfl _ (nodeA n A c) [] (BX_0.out) rfl Tryz.underlying33 rfl (by kernel_rfl) ?_)
  | (go_at_call 9; (with_reducible refine (HD.out _ HB0.out).mono ?_); rintro e x1 ⟨rfl, hb⟩; have HB1 := Aside0.mk (below_step HB0.out hb); have BX_1 := Aside0.mk (blk_below BX_0.out hb); clear hb HB0 BX_0)
  | ((with_reducible refine gate_dst (N := 16) rfl ?_); (refine gate_guard (by rfl) ?_; dsimp only); refine wpPartLd 16 rfl rfl 33 (.tmp 3) rfl _ rfl _ (nodeA n A c) [] (BX_1.out) rfl Tryz.underlying33 rfl (by kernel_rfl) ?_)
  | (go_at_call 15; (with_reducible refine (HC.out _ HB1.out).mono ?_); rintro e x2 ⟨rfl, hb⟩; have HB2 := Aside0.mk (below_step HB1.out hb); have BX_2 := Aside0.mk (blk_below BX_1.out hb); clear hb HB1 BX_1)
  | (go_at_call 10; (with_reducible refine (HL.out _ HB2.out).mono ?_); rintro e x3 ⟨rfl, hb⟩; have HB3 := Aside0.mk (below_step HB2.out hb); have BX_3 := Aside0.mk (blk_below BX_2.out hb); clear hb HB2 BX_2))
 go_ret
 exact ⟨rfl, HB3.out⟩
theorem alike_err (n m : Nd) (r k : Int) (A : Option Addr) (c : Nat) (w : World) (HKn : Aside0 (KidsC w A c n.f5))
  (HD : Aside0 (∀ W, Below w.heap.size w W → Calls Tryz.prog 9 #[nodeV n A c] W fun e w' => e = .returned (.bool false) ∧ Below W.heap.size W w'))
  (HC : Aside0 (∀ W, Below w.heap.size w W → Calls Tryz.prog 15 #[nodeV n A c] W fun e w' => e = .returned (.int .i64 0) ∧ Below W.heap.size W w'))
  (HL : Aside0 (∀ W, Below w.heap.size w W → Calls Tryz.prog 10 #[] W fun e w' => e = .returned (.bool true) ∧ Below W.heap.size W w'))
  (HS0 : Aside0 (∀ W A_ c_, Below w.heap.size w W → KidsC W A_ c_ n.f5 → Calls Tryz.prog 12 #[nodeV n A_ c_, .int .i64 0, .int .i64 0] W (NodeIntOut n 0 W)))
  (HE : Aside0 (∀ W A_ c_ B_ e_, KidsC W A_ c_ n.f5 → KidsC W B_ e_ n.f5 → Calls Tryz.prog 14 #[nodeV n A_ c_, nodeV n B_ e_] W fun e w' => e = .returned (.bool true) ∧ Below W.heap.size W w'))
  (HS : Aside0 (∀ W A_ c_, Below w.heap.size w W → KidsC W A_ c_ n.f5 → Calls Tryz.prog 12 #[nodeV n A_ c_, .int .i64 r, .int .i64 k] W (NodeIntOut m 2 W))) :
  Calls Tryz.prog 4 #[nodeV n A c, .int .i64 r, .int .i64 k] w fun e w' => e = .returned (.bool true) ∧ Below w.heap.size w w' := by
 have HB0 := Aside0.mk (bel1 w (.cells (nodeA n A c) 33))
 have BX_0 := Aside0.mk (newBlk w (.cells (nodeA n A c) 33))
 go_enter Tryz.func4, Tryz.ntmps4
 go_wp2_with (first
  | ((with_reducible refine gate_dst (N := 13) rfl ?_); (refine gate_guard (by rfl) ?_; dsimp only); refine wpPartLd 13 rfl rfl 33 (.tmp 3) rfl _ rfl _ (nodeA n A c) [] (BX_0.out) rfl Tryz.underlying33 rfl (by kernel_rfl) ?_)
  | (go_at_call 9; (with_reducible refine (HD.out _ HB0.out).mono ?_); rintro e x1 ⟨rfl, hb⟩; have HB1 := Aside0.mk (below_step HB0.out hb); have BX_1 := Aside0.mk (blk_below BX_0.out hb); clear hb HB0 BX_0)
  | ((with_reducible refine gate_dst (N := 16) rfl ?_); (refine gate_guard (by rfl) ?_; dsimp only); refine wpPartLd 16 rfl rfl 33 (.tmp 3) rfl _ rfl _ (nodeA n A c) [] (BX_1.out) rfl Tryz.underlying33 rfl (by kernel_rfl) ?_)
  | (go_at_call 15; (with_reducible refine (HC.out _ HB1.out).mono ?_); rintro e x2 ⟨rfl, hb⟩; have HB2 := Aside0.mk (below_step HB1.out hb); have BX_2 := Aside0.mk (blk_below BX_1.out hb); clear hb HB1 BX_1)
  | ((with_reducible refine gate_dst (N := 22) rfl ?_); (refine gate_guard (by rfl) ?_; dsimp only); refine wpPartLd 22 rfl rfl 33 (.tmp 3) rfl _ rfl _ (nodeA n A c) [] (BX_2.out) rfl Tryz.underlying33 rfl (by kernel_rfl) ?_)
  | (go_at_call 12; (with_reducible refine (HS0.out _ _ _ HB2.out (HKn.out.below HB2.out)).mono ?_); rintro e x3 ⟨A7, c7, rfl, hF, hb⟩; have HB3 := Aside0.mk (below_step HB2.out hb); have BX_3 := Aside0.mk (blk_below BX_2.out hb); have N7 := Aside0.mk (heldNew hF); clear hb hF HB2 BX_2)
  | ((with_reducible refine gate_store (t := 33) (p := 7) (v := .tmp 24) rfl ?_); refine wpRowSt rfl 33 (.tmp 7) (.tmp 24) rfl (x3.heap.size) (nodeA n A7 c7) rfl rfl 33 _ (newBlk x3 _) (by kernel_rfl) rfl rfl ?_; have HB4 := Aside0.mk (rowBelow (below_alloc HB3.out (.cells Z16 33)) HB3.out.size (nodeA n A7 c7)); have F7_4 := Aside0.mk N7.out; have BX_4 := Aside0.mk (boxStore BX_3.out (nodeA n A7 c7) (.cells Z16 33)); clear N7 HB3 BX_3)
  | ((with_reducible refine gate_dst (N := 29) rfl ?_); (refine gate_guard (by rfl) ?_; dsimp only); refine wpPartLd 29 rfl rfl 33 (.tmp 7) rfl _ rfl _ (nodeA n A7 c7) [] (F7_4.out.1) rfl Tryz.underlying33 rfl (by kernel_rfl) ?_)
  | ((with_reducible refine gate_dst (N := 30) rfl ?_); (refine gate_guard (by rfl) ?_; dsimp only); refine wpPartLd 30 rfl rfl 33 (.tmp 3) rfl _ rfl _ (nodeA n A c) [] (BX_4.out) rfl Tryz.underlying33 rfl (by kernel_rfl) ?_)
  | (go_at_call 14; (with_reducible refine (HE.out _ _ _ _ _ F7_4.out.now (HKn.out.below HB4.out)).mono ?_); rintro e x5 ⟨rfl, hb⟩; have HB5 := Aside0.mk (below_step HB4.out hb); have BX_5 := Aside0.mk (blk_below BX_4.out hb); have F7_5 := Aside0.mk (F7_4.out.below hb); clear hb HB4 BX_4 F7_4)
  | ((with_reducible refine gate_dst (N := 35) rfl ?_); (refine gate_guard (by rfl) ?_; dsimp only); refine wpPartLd 35 rfl rfl 33 (.tmp 3) rfl _ rfl _ (nodeA n A c) [] (BX_5.out) rfl Tryz.underlying33 rfl (by kernel_rfl) ?_)
  | (go_at_call 12; (with_reducible refine (HS.out _ _ _ HB5.out (HKn.out.below HB5.out)).mono ?_); rintro e x6 ⟨A9, c9, rfl, hF, hb⟩; have HB6 := Aside0.mk (below_step HB5.out hb); have BX_6 := Aside0.mk (blk_below BX_5.out hb); have F7_6 := Aside0.mk (F7_5.out.below hb); have N9 := Aside0.mk (heldNew hF); clear hb hF HB5 BX_5 F7_5)
  | ((with_reducible refine gate_store (t := 33) (p := 9) (v := .tmp 39) rfl ?_); refine wpRowSt rfl 33 (.tmp 9) (.tmp 39) rfl (x6.heap.size) (nodeA m A9 c9) rfl rfl 33 _ (newBlk x6 _) (by kernel_rfl) rfl rfl ?_; have HB7 := Aside0.mk (rowBelow (below_alloc HB6.out (.cells Z16 33)) HB6.out.size (nodeA m A9 c9)); have F9_7 := Aside0.mk N9.out; have BX_7 := Aside0.mk (boxStore BX_6.out (nodeA m A9 c9) (.cells Z16 33)); have F7_7 := Aside0.mk (F7_6.out.store (nodeA m A9 c9) (.cells Z16 33)); clear N9 HB6 BX_6 F7_6)
  | (go_at_call 10; (with_reducible refine (HL.out _ HB7.out).mono ?_); rintro e x8 ⟨rfl, hb⟩; have HB8 := Aside0.mk (below_step HB7.out hb); have BX_8 := Aside0.mk (blk_below BX_7.out hb); have F7_8 := Aside0.mk (F7_7.out.below hb); have F9_8 := Aside0.mk (F9_7.out.below hb); clear hb HB7 BX_7 F7_7 F9_7))
 go_ret
 exact ⟨rfl, HB8.out⟩
theorem alike_lost (n m : Nd) (r k lm ln : Int) (hlt : ln < lm) (A : Option Addr) (c : Nat) (w : World) (HKn : Aside0 (KidsC w A c n.f5))
  (HD : Aside0 (∀ W, Below w.heap.size w W → Calls Tryz.prog 9 #[nodeV n A c] W fun e w' => e = .returned (.bool false) ∧ Below W.heap.size W w'))
  (HC : Aside0 (∀ W, Below w.heap.size w W → Calls Tryz.prog 15 #[nodeV n A c] W fun e w' => e = .returned (.int .i64 0) ∧ Below W.heap.size W w'))
  (HL : Aside0 (∀ W, Below w.heap.size w W → Calls Tryz.prog 10 #[] W fun e w' => e = .returned (.bool true) ∧ Below W.heap.size W w'))
  (HS0 : Aside0 (∀ W A_ c_, Below w.heap.size w W → KidsC W A_ c_ n.f5 → Calls Tryz.prog 12 #[nodeV n A_ c_, .int .i64 0, .int .i64 0] W (NodeIntOut n 0 W)))
  (HE : Aside0 (∀ W A_ c_ B_ e_, KidsC W A_ c_ n.f5 → KidsC W B_ e_ n.f5 → Calls Tryz.prog 14 #[nodeV n A_ c_, nodeV n B_ e_] W fun e w' => e = .returned (.bool true) ∧ Below W.heap.size W w'))
  (HS : Aside0 (∀ W A_ c_, Below w.heap.size w W → KidsC W A_ c_ n.f5 → Calls Tryz.prog 12 #[nodeV n A_ c_, .int .i64 r, .int .i64 k] W (NodeIntOut m 0 W)))
  (HLm : Aside0 (∀ W A_ c_, KidsC W A_ c_ m.f5 → Calls Tryz.prog 16 #[nodeV m A_ c_] W fun e w' => e = .returned (.int .i64 lm) ∧ Below W.heap.size W w'))
  (HLn : Aside0 (∀ W A_ c_, KidsC W A_ c_ n.f5 → Calls Tryz.prog 16 #[nodeV n A_ c_] W fun e w' => e = .returned (.int .i64 ln) ∧ Below W.heap.size W w')) :
  Calls Tryz.prog 4 #[nodeV n A c, .int .i64 r, .int .i64 k] w fun e w' => e = .returned (.bool true) ∧ Below w.heap.size w w' := by
 have HB0 := Aside0.mk (bel1 w (.cells (nodeA n A c) 33))
 have BX_0 := Aside0.mk (newBlk w (.cells (nodeA n A c) 33))
 go_enter Tryz.func4, Tryz.ntmps4
 go_wp2_with (first
  | ((with_reducible refine gate_dst (N := 13) rfl ?_); (refine gate_guard (by rfl) ?_; dsimp only); refine wpPartLd 13 rfl rfl 33 (.tmp 3) rfl _ rfl _ (nodeA n A c) [] (BX_0.out) rfl Tryz.underlying33 rfl (by kernel_rfl) ?_)
  | (go_at_call 9; (with_reducible refine (HD.out _ HB0.out).mono ?_); rintro e x1 ⟨rfl, hb⟩; have HB1 := Aside0.mk (below_step HB0.out hb); have BX_1 := Aside0.mk (blk_below BX_0.out hb); clear hb HB0 BX_0)
  | ((with_reducible refine gate_dst (N := 16) rfl ?_); (refine gate_guard (by rfl) ?_; dsimp only); refine wpPartLd 16 rfl rfl 33 (.tmp 3) rfl _ rfl _ (nodeA n A c) [] (BX_1.out) rfl Tryz.underlying33 rfl (by kernel_rfl) ?_)
  | (go_at_call 15; (with_reducible refine (HC.out _ HB1.out).mono ?_); rintro e x2 ⟨rfl, hb⟩; have HB2 := Aside0.mk (below_step HB1.out hb); have BX_2 := Aside0.mk (blk_below BX_1.out hb); clear hb HB1 BX_1)
  | ((with_reducible refine gate_dst (N := 22) rfl ?_); (refine gate_guard (by rfl) ?_; dsimp only); refine wpPartLd 22 rfl rfl 33 (.tmp 3) rfl _ rfl _ (nodeA n A c) [] (BX_2.out) rfl Tryz.underlying33 rfl (by kernel_rfl) ?_)
  | (go_at_call 12; (with_reducible refine (HS0.out _ _ _ HB2.out (HKn.out.below HB2.out)).mono ?_); rintro e x3 ⟨A7, c7, rfl, hF, hb⟩; have HB3 := Aside0.mk (below_step HB2.out hb); have BX_3 := Aside0.mk (blk_below BX_2.out hb); have N7 := Aside0.mk (heldNew hF); clear hb hF HB2 BX_2)
  | ((with_reducible refine gate_store (t := 33) (p := 7) (v := .tmp 24) rfl ?_); refine wpRowSt rfl 33 (.tmp 7) (.tmp 24) rfl (x3.heap.size) (nodeA n A7 c7) rfl rfl 33 _ (newBlk x3 _) (by kernel_rfl) rfl rfl ?_; have HB4 := Aside0.mk (rowBelow (below_alloc HB3.out (.cells Z16 33)) HB3.out.size (nodeA n A7 c7)); have F7_4 := Aside0.mk N7.out; have BX_4 := Aside0.mk (boxStore BX_3.out (nodeA n A7 c7) (.cells Z16 33)); clear N7 HB3 BX_3)
  | ((with_reducible refine gate_dst (N := 29) rfl ?_); (refine gate_guard (by rfl) ?_; dsimp only); refine wpPartLd 29 rfl rfl 33 (.tmp 7) rfl _ rfl _ (nodeA n A7 c7) [] (F7_4.out.1) rfl Tryz.underlying33 rfl (by kernel_rfl) ?_)
  | ((with_reducible refine gate_dst (N := 30) rfl ?_); (refine gate_guard (by rfl) ?_; dsimp only); refine wpPartLd 30 rfl rfl 33 (.tmp 3) rfl _ rfl _ (nodeA n A c) [] (BX_4.out) rfl Tryz.underlying33 rfl (by kernel_rfl) ?_)
  | (go_at_call 14; (with_reducible refine (HE.out _ _ _ _ _ F7_4.out.now (HKn.out.below HB4.out)).mono ?_); rintro e x5 ⟨rfl, hb⟩; have HB5 := Aside0.mk (below_step HB4.out hb); have BX_5 := Aside0.mk (blk_below BX_4.out hb); have F7_5 := Aside0.mk (F7_4.out.below hb); clear hb HB4 BX_4 F7_4)
  | ((with_reducible refine gate_dst (N := 35) rfl ?_); (refine gate_guard (by rfl) ?_; dsimp only); refine wpPartLd 35 rfl rfl 33 (.tmp 3) rfl _ rfl _ (nodeA n A c) [] (BX_5.out) rfl Tryz.underlying33 rfl (by kernel_rfl) ?_)
  | (go_at_call 12; (with_reducible refine (HS.out _ _ _ HB5.out (HKn.out.below HB5.out)).mono ?_); rintro e x6 ⟨A9, c9, rfl, hF, hb⟩; have HB6 := Aside0.mk (below_step HB5.out hb); have BX_6 := Aside0.mk (blk_below BX_5.out hb); have F7_6 := Aside0.mk (F7_5.out.below hb); have N9 := Aside0.mk (heldNew hF); clear hb hF HB5 BX_5 F7_5)
  | ((with_reducible refine gate_store (t := 33) (p := 9) (v := .tmp 39) rfl ?_); refine wpRowSt rfl 33 (.tmp 9) (.tmp 39) rfl (x6.heap.size) (nodeA m A9 c9) rfl rfl 33 _ (newBlk x6 _) (by kernel_rfl) rfl rfl ?_; have HB7 := Aside0.mk (rowBelow (below_alloc HB6.out (.cells Z16 33)) HB6.out.size (nodeA m A9 c9)); have F9_7 := Aside0.mk N9.out; have BX_7 := Aside0.mk (boxStore BX_6.out (nodeA m A9 c9) (.cells Z16 33)); have F7_7 := Aside0.mk (F7_6.out.store (nodeA m A9 c9) (.cells Z16 33)); clear N9 HB6 BX_6 F7_6))
 refine start_ (n := 5) (S := fun w' => Held w' x6.heap.size m A9 c9 ∧ w'.heap[w.heap.size]? = some (.cells (nodeA n A c) 33 (0, 0)) ∧ Below w.heap.size w w') (ds := []) (Array.replicate 5 false) (by kernel_rfl) rfl rfl ⟨F9_7.out.below (below_drew1 (Below.refl _ _)), blk_drew BX_7.out, below_drew1 HB7.out⟩ (fun hHeld => ?_)
 refine with_tabW alike9.tab9 alike9.bits9 (fun HT_ HW_ => ?_)
 refine tz 0 48 HT_ HW_ (hr := (by rintro w' s0; exact partRun (cs := nodeA m A9 c9) [] rfl rfl (s0.1.1) rfl Tryz.underlying33 rfl (by kernel_rfl))) (hS := hHeld) (h := ?_)
 refine tz 2 50 HT_ HW_ (hr := (by rintro w' s0; exact partRun (cs := nodeA n A c) [] rfl rfl (s0.2.1) rfl Tryz.underlying33 rfl (by kernel_rfl))) (hS := hHeld) (h := ?_)
 refine oneI 1 (some 49) HT_ rfl rfl (by kernel_rfl) (by decide) (fun K hK => ?_)
 refine goes_ Tryz.func16 (by kernel_rfl) rfl #[nodeV m A9 c9] (by (try simp only [List.map_toArray, List.map_cons, List.map_nil]); first | done | rfl) rfl rfl (by first | rfl | ((try simp only [List.map_toArray, List.map_cons, List.map_nil]); first | done | rfl)) ?_
 with_reducible refine (HLm.out _ _ _ hHeld.1.now).mono ?_
 rintro e w8 ⟨rfl, hb⟩
 refine ⟨_, rfl, ?_⟩
 refine hK.out _ _ ⟨hHeld.1.below hb, blk_below hHeld.2.1 hb, below_step hHeld.2.2 hb⟩ (fun hHeld => ?_)
 clear hK K
 refine nz 49 ?_
 refine oneI 3 (some 51) HT_ rfl rfl (by kernel_rfl) (by decide) (fun K hK => ?_)
 refine goes_ Tryz.func16 (by kernel_rfl) rfl #[nodeV n A c] (by (try simp only [List.map_toArray, List.map_cons, List.map_nil]); first | done | rfl) rfl rfl (by first | rfl | ((try simp only [List.map_toArray, List.map_cons, List.map_nil]); first | done | rfl)) ?_
 with_reducible refine (HLn.out _ _ _ (HKn.out.below hHeld.2.2)).mono ?_
 rintro e w9 ⟨rfl, hb⟩
 refine ⟨_, rfl, ?_⟩
 refine hK.out _ _ ⟨hHeld.1.below hb, blk_below hHeld.2.1 hb, below_step hHeld.2.2 hb⟩ (fun hHeld => ?_)
 clear hK K
 refine nz 51 ?_
 refine pz 4 52 HT_ ?_
 refine done_ (done_of HT_.out (by kernel_rfl)) ?_
 have F9_8 := Aside0.mk hHeld.1
 have BX_8 := Aside0.mk hHeld.2.1
 have HB8 := Aside0.mk hHeld.2.2
 clear hHeld
 go_wp2_with (first
  | (go_at_call 10; (with_reducible refine (HL.out _ HB8.out).mono ?_); rintro e x9 ⟨rfl, hb⟩; have HB9 := Aside0.mk (below_step HB8.out hb); have BX_9 := Aside0.mk (blk_below BX_8.out hb); have F9_9 := Aside0.mk (F9_8.out.below hb); clear hb HB8 BX_8 F9_8))
 go_ret
 exact ⟨rfl, HB9.out⟩
theorem alike_go (n m : Nd) (r k lm ln : Int) (hlt : ¬ln < lm) (A : Option Addr) (c : Nat) (w : World) (HKn : Aside0 (KidsC w A c n.f5))
  (HD : Aside0 (∀ W, Below w.heap.size w W → Calls Tryz.prog 9 #[nodeV n A c] W fun e w' => e = .returned (.bool false) ∧ Below W.heap.size W w'))
  (HC : Aside0 (∀ W, Below w.heap.size w W → Calls Tryz.prog 15 #[nodeV n A c] W fun e w' => e = .returned (.int .i64 0) ∧ Below W.heap.size W w'))
  (HL : Aside0 (∀ W, Below w.heap.size w W → Calls Tryz.prog 10 #[] W fun e w' => e = .returned (.bool true) ∧ Below W.heap.size W w'))
  (HS0 : Aside0 (∀ W A_ c_, Below w.heap.size w W → KidsC W A_ c_ n.f5 → Calls Tryz.prog 12 #[nodeV n A_ c_, .int .i64 0, .int .i64 0] W (NodeIntOut n 0 W)))
  (HE : Aside0 (∀ W A_ c_ B_ e_, KidsC W A_ c_ n.f5 → KidsC W B_ e_ n.f5 → Calls Tryz.prog 14 #[nodeV n A_ c_, nodeV n B_ e_] W fun e w' => e = .returned (.bool true) ∧ Below W.heap.size W w'))
  (HS : Aside0 (∀ W A_ c_, Below w.heap.size w W → KidsC W A_ c_ n.f5 → Calls Tryz.prog 12 #[nodeV n A_ c_, .int .i64 r, .int .i64 k] W (NodeIntOut m 0 W)))
  (HLm : Aside0 (∀ W A_ c_, KidsC W A_ c_ m.f5 → Calls Tryz.prog 16 #[nodeV m A_ c_] W fun e w' => e = .returned (.int .i64 lm) ∧ Below W.heap.size W w'))
  (HLn : Aside0 (∀ W A_ c_, KidsC W A_ c_ n.f5 → Calls Tryz.prog 16 #[nodeV n A_ c_] W fun e w' => e = .returned (.int .i64 ln) ∧ Below W.heap.size W w'))
  (HS2 : Aside0 (∀ W A_ c_, Below w.heap.size w W → KidsC W A_ c_ m.f5 → Calls Tryz.prog 12 #[nodeV m A_ c_, .int .i64 (wrap64 (-r)), .int .i64 (wrap64 (-k))] W (NodeIntOut n 0 W))) :
  Calls Tryz.prog 4 #[nodeV n A c, .int .i64 r, .int .i64 k] w fun e w' => e = .returned (.bool true) ∧ Below w.heap.size w w' := by
 have HB0 := Aside0.mk (bel1 w (.cells (nodeA n A c) 33))
 have BX_0 := Aside0.mk (newBlk w (.cells (nodeA n A c) 33))
 go_enter Tryz.func4, Tryz.ntmps4
 go_wp2_with (first
  | ((with_reducible refine gate_dst (N := 13) rfl ?_); (refine gate_guard (by rfl) ?_; dsimp only); refine wpPartLd 13 rfl rfl 33 (.tmp 3) rfl _ rfl _ (nodeA n A c) [] (BX_0.out) rfl Tryz.underlying33 rfl (by kernel_rfl) ?_)
  | (go_at_call 9; (with_reducible refine (HD.out _ HB0.out).mono ?_); rintro e x1 ⟨rfl, hb⟩; have HB1 := Aside0.mk (below_step HB0.out hb); have BX_1 := Aside0.mk (blk_below BX_0.out hb); clear hb HB0 BX_0)
  | ((with_reducible refine gate_dst (N := 16) rfl ?_); (refine gate_guard (by rfl) ?_; dsimp only); refine wpPartLd 16 rfl rfl 33 (.tmp 3) rfl _ rfl _ (nodeA n A c) [] (BX_1.out) rfl Tryz.underlying33 rfl (by kernel_rfl) ?_)
  | (go_at_call 15; (with_reducible refine (HC.out _ HB1.out).mono ?_); rintro e x2 ⟨rfl, hb⟩; have HB2 := Aside0.mk (below_step HB1.out hb); have BX_2 := Aside0.mk (blk_below BX_1.out hb); clear hb HB1 BX_1)
  | ((with_reducible refine gate_dst (N := 22) rfl ?_); (refine gate_guard (by rfl) ?_; dsimp only); refine wpPartLd 22 rfl rfl 33 (.tmp 3) rfl _ rfl _ (nodeA n A c) [] (BX_2.out) rfl Tryz.underlying33 rfl (by kernel_rfl) ?_)
  | (go_at_call 12; (with_reducible refine (HS0.out _ _ _ HB2.out (HKn.out.below HB2.out)).mono ?_); rintro e x3 ⟨A7, c7, rfl, hF, hb⟩; have HB3 := Aside0.mk (below_step HB2.out hb); have BX_3 := Aside0.mk (blk_below BX_2.out hb); have N7 := Aside0.mk (heldNew hF); clear hb hF HB2 BX_2)
  | ((with_reducible refine gate_store (t := 33) (p := 7) (v := .tmp 24) rfl ?_); refine wpRowSt rfl 33 (.tmp 7) (.tmp 24) rfl (x3.heap.size) (nodeA n A7 c7) rfl rfl 33 _ (newBlk x3 _) (by kernel_rfl) rfl rfl ?_; have HB4 := Aside0.mk (rowBelow (below_alloc HB3.out (.cells Z16 33)) HB3.out.size (nodeA n A7 c7)); have F7_4 := Aside0.mk N7.out; have BX_4 := Aside0.mk (boxStore BX_3.out (nodeA n A7 c7) (.cells Z16 33)); clear N7 HB3 BX_3)
  | ((with_reducible refine gate_dst (N := 29) rfl ?_); (refine gate_guard (by rfl) ?_; dsimp only); refine wpPartLd 29 rfl rfl 33 (.tmp 7) rfl _ rfl _ (nodeA n A7 c7) [] (F7_4.out.1) rfl Tryz.underlying33 rfl (by kernel_rfl) ?_)
  | ((with_reducible refine gate_dst (N := 30) rfl ?_); (refine gate_guard (by rfl) ?_; dsimp only); refine wpPartLd 30 rfl rfl 33 (.tmp 3) rfl _ rfl _ (nodeA n A c) [] (BX_4.out) rfl Tryz.underlying33 rfl (by kernel_rfl) ?_)
  | (go_at_call 14; (with_reducible refine (HE.out _ _ _ _ _ F7_4.out.now (HKn.out.below HB4.out)).mono ?_); rintro e x5 ⟨rfl, hb⟩; have HB5 := Aside0.mk (below_step HB4.out hb); have BX_5 := Aside0.mk (blk_below BX_4.out hb); have F7_5 := Aside0.mk (F7_4.out.below hb); clear hb HB4 BX_4 F7_4)
  | ((with_reducible refine gate_dst (N := 35) rfl ?_); (refine gate_guard (by rfl) ?_; dsimp only); refine wpPartLd 35 rfl rfl 33 (.tmp 3) rfl _ rfl _ (nodeA n A c) [] (BX_5.out) rfl Tryz.underlying33 rfl (by kernel_rfl) ?_)
  | (go_at_call 12; (with_reducible refine (HS.out _ _ _ HB5.out (HKn.out.below HB5.out)).mono ?_); rintro e x6 ⟨A9, c9, rfl, hF, hb⟩; have HB6 := Aside0.mk (below_step HB5.out hb); have BX_6 := Aside0.mk (blk_below BX_5.out hb); have F7_6 := Aside0.mk (F7_5.out.below hb); have N9 := Aside0.mk (heldNew hF); clear hb hF HB5 BX_5 F7_5)
  | ((with_reducible refine gate_store (t := 33) (p := 9) (v := .tmp 39) rfl ?_); refine wpRowSt rfl 33 (.tmp 9) (.tmp 39) rfl (x6.heap.size) (nodeA m A9 c9) rfl rfl 33 _ (newBlk x6 _) (by kernel_rfl) rfl rfl ?_; have HB7 := Aside0.mk (rowBelow (below_alloc HB6.out (.cells Z16 33)) HB6.out.size (nodeA m A9 c9)); have F9_7 := Aside0.mk N9.out; have BX_7 := Aside0.mk (boxStore BX_6.out (nodeA m A9 c9) (.cells Z16 33)); have F7_7 := Aside0.mk (F7_6.out.store (nodeA m A9 c9) (.cells Z16 33)); clear N9 HB6 BX_6 F7_6))
 refine start_ (n := 5) (S := fun w' => Held w' x6.heap.size m A9 c9 ∧ w'.heap[w.heap.size]? = some (.cells (nodeA n A c) 33 (0, 0)) ∧ Below w.heap.size w w') (ds := []) (Array.replicate 5 false) (by kernel_rfl) rfl rfl ⟨F9_7.out.below (below_drew1 (Below.refl _ _)), blk_drew BX_7.out, below_drew1 HB7.out⟩ (fun hHeld => ?_)
 refine with_tabW alike9.tab9 alike9.bits9 (fun HT_ HW_ => ?_)
 refine tz 0 48 HT_ HW_ (hr := (by rintro w' s0; exact partRun (cs := nodeA m A9 c9) [] rfl rfl (s0.1.1) rfl Tryz.underlying33 rfl (by kernel_rfl))) (hS := hHeld) (h := ?_)
 refine tz 2 50 HT_ HW_ (hr := (by rintro w' s0; exact partRun (cs := nodeA n A c) [] rfl rfl (s0.2.1) rfl Tryz.underlying33 rfl (by kernel_rfl))) (hS := hHeld) (h := ?_)
 refine oneI 1 (some 49) HT_ rfl rfl (by kernel_rfl) (by decide) (fun K hK => ?_)
 refine goes_ Tryz.func16 (by kernel_rfl) rfl #[nodeV m A9 c9] (by (try simp only [List.map_toArray, List.map_cons, List.map_nil]); first | done | rfl) rfl rfl (by first | rfl | ((try simp only [List.map_toArray, List.map_cons, List.map_nil]); first | done | rfl)) ?_
 with_reducible refine (HLm.out _ _ _ hHeld.1.now).mono ?_
 rintro e w8 ⟨rfl, hb⟩
 refine ⟨_, rfl, ?_⟩
 refine hK.out _ _ ⟨hHeld.1.below hb, blk_below hHeld.2.1 hb, below_step hHeld.2.2 hb⟩ (fun hHeld => ?_)
 clear hK K
 refine nz 49 ?_
 refine oneI 3 (some 51) HT_ rfl rfl (by kernel_rfl) (by decide) (fun K hK => ?_)
 refine goes_ Tryz.func16 (by kernel_rfl) rfl #[nodeV n A c] (by (try simp only [List.map_toArray, List.map_cons, List.map_nil]); first | done | rfl) rfl rfl (by first | rfl | ((try simp only [List.map_toArray, List.map_cons, List.map_nil]); first | done | rfl)) ?_
 with_reducible refine (HLn.out _ _ _ (HKn.out.below hHeld.2.2)).mono ?_
 rintro e w9 ⟨rfl, hb⟩
 refine ⟨_, rfl, ?_⟩
 refine hK.out _ _ ⟨hHeld.1.below hb, blk_below hHeld.2.1 hb, below_step hHeld.2.2 hb⟩ (fun hHeld => ?_)
 clear hK K
 refine nz 51 ?_
 refine pz 4 52 HT_ ?_
 refine done_ (done_of HT_.out (by kernel_rfl)) ?_
 have F9_8 := Aside0.mk hHeld.1
 have BX_8 := Aside0.mk hHeld.2.1
 have HB8 := Aside0.mk hHeld.2.2
 clear hHeld
 go_wp2_with (first
  | ((with_reducible refine gate_dst (N := 55) rfl ?_); (refine gate_guard (by rfl) ?_; dsimp only); refine wpPartLd 55 rfl rfl 33 (.tmp 9) rfl _ rfl _ (nodeA m A9 c9) [] (F9_8.out.1) rfl Tryz.underlying33 rfl (by kernel_rfl) ?_)
  | (go_at_call 12; (with_reducible refine (HS2.out _ _ _ HB8.out F9_8.out.now).mono ?_); rintro e x9 ⟨A11, c11, rfl, hF, hb⟩; have HB9 := Aside0.mk (below_step HB8.out hb); have BX_9 := Aside0.mk (blk_below BX_8.out hb); have F9_9 := Aside0.mk (F9_8.out.below hb); have N11 := Aside0.mk (heldNew hF); clear hb hF HB8 BX_8 F9_8)
  | ((with_reducible refine gate_store (t := 33) (p := 11) (v := .tmp 61) rfl ?_); refine wpRowSt rfl 33 (.tmp 11) (.tmp 61) rfl (x9.heap.size) (nodeA n A11 c11) rfl rfl 33 _ (newBlk x9 _) (by kernel_rfl) rfl rfl ?_; have HB10 := Aside0.mk (rowBelow (below_alloc HB9.out (.cells Z16 33)) HB9.out.size (nodeA n A11 c11)); have F11_10 := Aside0.mk N11.out; have BX_10 := Aside0.mk (boxStore BX_9.out (nodeA n A11 c11) (.cells Z16 33)); have F9_10 := Aside0.mk (F9_9.out.store (nodeA n A11 c11) (.cells Z16 33)); clear N11 HB9 BX_9 F9_9)
  | ((with_reducible refine gate_dst (N := 66) rfl ?_); (refine gate_guard (by rfl) ?_; dsimp only); refine wpPartLd 66 rfl rfl 33 (.tmp 11) rfl _ rfl _ (nodeA n A11 c11) [] (F11_10.out.1) rfl Tryz.underlying33 rfl (by kernel_rfl) ?_)
  | ((with_reducible refine gate_dst (N := 67) rfl ?_); (refine gate_guard (by rfl) ?_; dsimp only); refine wpPartLd 67 rfl rfl 33 (.tmp 3) rfl _ rfl _ (nodeA n A c) [] (BX_10.out) rfl Tryz.underlying33 rfl (by kernel_rfl) ?_)
  | (go_at_call 14; (with_reducible refine (HE.out _ _ _ _ _ F11_10.out.now (HKn.out.below HB10.out)).mono ?_); rintro e x11 ⟨rfl, hb⟩; have HB11 := Aside0.mk (below_step HB10.out hb); have BX_11 := Aside0.mk (blk_below BX_10.out hb); have F9_11 := Aside0.mk (F9_10.out.below hb); have F11_11 := Aside0.mk (F11_10.out.below hb); clear hb HB10 BX_10 F9_10 F11_10)
  | (go_at_call 10; (with_reducible refine (HL.out _ HB11.out).mono ?_); rintro e x12 ⟨rfl, hb⟩; have HB12 := Aside0.mk (below_step HB11.out hb); have BX_12 := Aside0.mk (blk_below BX_11.out hb); have F9_12 := Aside0.mk (F9_11.out.below hb); have F11_12 := Aside0.mk (F11_11.out.below hb); clear hb HB11 BX_11 F9_11 F11_11))
 go_ret
 exact ⟨rfl, HB12.out⟩
theorem cell_bd {c : Ce} (h : cellB c = true) : 1 ≤ c.f0.f0 ∧ c.f0.f0 ≤ 1048576 ∧ 1 ≤ c.f0.f1 ∧ c.f0.f1 ≤ 16384 := by
 simpa only [cellB, placeB, Bool.and_eq_true, decide_eq_true_eq] using h
theorem slid_zero {c : Ce} (h : cellB c = true) : slidC 0 0 c = c := by
 obtain ⟨h1, h2, h3, h4⟩ := cell_bd h
 obtain ⟨⟨a, b⟩, f, g⟩ := c
 simp only at h1 h2 h3 h4
 have e1 : wrap64 (a + 0) = a := by simp only [wrap64]; omega
 have e2 : wrap64 (b + 0) = b := by simp only [wrap64]; omega
 simp only [slidC, e1, e2, ite_self]
theorem slid_back {c : Ce} {r k : Int} (h : cellB c = true) (hr : -1048576 ≤ r ∧ r ≤ 1048576) (hk : -16384 ≤ k ∧ k ≤ 16384) : slidC (-r) (-k) (slidC r k c) = c := by
 obtain ⟨h1, h2, h3, h4⟩ := cell_bd h
 obtain ⟨⟨a, b⟩, f, g⟩ := c
 simp only at h1 h2 h3 h4
 have e1 : wrap64 (wrap64 (a + r) + -r) = a := by simp only [wrap64]; omega
 have e2 : wrap64 (wrap64 (b + k) + -k) = b := by simp only [wrap64]; omega
 cases f <;> cases g <;> simp [slidC, e1, e2]
theorem slid1_place (r k : Int) (c c' : Ce) (h : slid1 r k c = some c') : cellB c' = true := by
 unfold slid1 at h
 split at h
 ·cases h; assumption
 ·cases h
theorem slid2_place (r k : Int) (c t : Ce) (p : Ce × Ce) (h : slid2 r k c t = some p) : cellB p.1 = true ∧ cellB p.2 = true := by
 unfold slid2 at h
 split at h
 ·cases h; assumption
 ·cases h
theorem kind_two {n : Nd} (h : (plainB n && kindB rV rLN rNM foldB n) = true) (e : n.f0 = 2) : cellB n.f2 = true := by
 rw [Bool.and_eq_true] at h
 have q := h.2
 simp only [kindB, e] at q
 unfold cellB
 simp at q
 exact q.2
theorem kind_three {n : Nd} (h : (plainB n && kindB rV rLN rNM foldB n) = true) (e : n.f0 = 3) : cellB n.f2 = true ∧ cellB n.f3 = true := by
 rw [Bool.and_eq_true] at h
 have q := h.2
 simp only [kindB, e] at q
 unfold cellB
 simp at q
 exact q.2
theorem slide_zero {n : Nd} (h : checkI n = 0) : slideS 0 0 n = n := by
 refine way_id (Q := fun n => plainB n && kindB rV rLN rNM foldB n) (fun n h e => ?_) (fun n h e => ?_) n (right_of_check h).1
 ·have q := kind_two h e
  simp only [slid1, slid_zero q, q, if_true]
 ·obtain ⟨q, q2⟩ := kind_three h e
  simp only [slid2, slid_zero q, slid_zero q2, q, q2, and_self, if_true]
theorem slide_back {n : Nd} {r k : Int} (h : checkI n = 0) (hr : -1048576 ≤ r ∧ r ≤ 1048576) (hk : -16384 ≤ k ∧ k ≤ 16384) (hn : allS (keptB (slid1 r k) (slid2 r k)) n = true) : slideS (-r) (-k) (slideS r k n) = n := by
 refine way_back (Q := fun n => (plainB n && kindB rV rLN rNM foldB n) && keptB (slid1 r k) (slid2 r k) n) (fun n h e => ?_) (fun n h e => ?_) n (allS_both n (right_of_check h).1 hn)
 ·rw [Bool.and_eq_true] at h
  have q := kind_two h.1 e
  have z := h.2
  simp only [keptB, e, if_true] at z
  unfold slid1 at z ⊢
  by_cases y : cellB (slidC r k n.f2) = true
  ·refine ⟨slidC r k n.f2, if_pos y, ?_⟩
   rw [slid_back q hr hk, if_pos q]
  ·rw [if_neg y] at z; cases z
 ·rw [Bool.and_eq_true] at h
  obtain ⟨q, q2⟩ := kind_three h.1 e
  have z := h.2
  simp only [keptB, e] at z
  unfold slid2 at z ⊢
  by_cases y : cellB (slidC r k n.f2) = true ∧ cellB (slidC r k n.f3) = true
  ·refine ⟨(slidC r k n.f2, slidC r k n.f3), if_pos y, ?_⟩
   show (if cellB (slidC (-r) (-k) (slidC r k n.f2)) = true ∧ cellB (slidC (-r) (-k) (slidC r k n.f3)) = true then some (slidC (-r) (-k) (slidC r k n.f2), slidC (-r) (-k) (slidC r k n.f3)) else none) = _
   rw [slid_back q hr hk, slid_back q2 hr hk, if_pos ⟨q, q2⟩]
  ·rw [if_neg y] at z; simp at z
theorem far_bd {r k : Int} (h : ¬farB r k = true) : (-1048576 ≤ r ∧ r ≤ 1048576) ∧ (-16384 ≤ k ∧ k ≤ 16384) := by
 simp only [farB, Bool.or_eq_true, decide_eq_true_eq, not_or] at h
 omega
theorem far_not {r k : Int} (hr : -1048576 ≤ r ∧ r ≤ 1048576) (hk : -16384 ≤ k ∧ k ≤ 16384) : ¬farB r k = true := by
 simp only [farB, Bool.or_eq_true, decide_eq_true_eq, not_or]
 omega
theorem kept_of_lost {n : Nd} {r k : Int} (h : checkI n = 0) (hl : ¬lostS n < lostS (slideS r k n)) : allS (keptB (slid1 r k) (slid2 r k)) n = true := by
 have hc := nodes_cnt n 4096 (by omega) (right_of_check h).2
 have hc2 := (right_of_check h).2
 have hw : cntS (slideS r k n) ≤ cntS n := cnt_way _ _ n
 rw [lost_cnt n (by omega), lost_cnt (slideS r k n) (by omega)] at hl
 exact (lost_way (slid1 r k) (slid2 r k) n (leaf_of_check h)).2 (show lostZ (slideS r k n) ≤ _ by omega)
theorem RewriteAlike_node (n : Nd) (r k : Int) (A : Option Addr) (c : Nat) (w : World) (hK : KidsC w A c n.f5) (hL0 : Aside0 (LaidW w)) :
  Calls Tryz.prog 4 #[nodeV n A c, .int .i64 r, .int .i64 k] w fun e w' => e = .returned (.bool true) ∧ Below w.heap.size w w' := by
 have HL : Aside0 (∀ W, Below w.heap.size w W → Calls Tryz.prog 10 #[] W fun e w' => e = .returned (.bool true) ∧ Below W.heap.size W w') := ⟨fun W hW => lives_calls W (LaidAt hL0 hW)⟩
 by_cases hd : depthI n = 0
 ·exact alike_deep n r k A c w ⟨deep_yes hd hK⟩ HL
 have HC : ∀ W, Below w.heap.size w W → Calls Tryz.prog 15 #[nodeV n A c] W fun e w' => e = .returned (.int .i64 (checkI n)) ∧ Below W.heap.size W w' := fun W hW => Check_calls n A c W (hK.below hW)
 by_cases hc : checkI n = 0
 case neg => exact alike_bad n r k A c w (checkI n) hc ⟨deep_no hd hK⟩ ⟨HC⟩ HL
 rw [hc] at HC
 have HS : ∀ r k W A_ c_, Below w.heap.size w W → KidsC W A_ c_ n.f5 → Calls Tryz.prog 12 #[nodeV n A_ c_, .int .i64 r, .int .i64 k] W (NodeIntOut (shiftN r k n) (shiftE r k n) W) := fun r k W A_ c_ hW h => shift_calls r k n A_ c_ W h (LaidAt hL0 hW)
 have HS0 := HS 0 0
 rw [show shiftN 0 0 n = n by unfold shiftN; rw [if_pos hc, if_neg (far_not (by omega) (by omega)), slide_zero hc], show shiftE 0 0 n = 0 by unfold shiftE; rw [if_pos hc, if_neg (far_not (by omega) (by omega))]] at HS0
 have HS1 := HS r k
 have HE : ∀ (m : Nd) W A_ c_ B_ e_, KidsC W A_ c_ m.f5 → KidsC W B_ e_ m.f5 → Calls Tryz.prog 14 #[nodeV m A_ c_, nodeV m B_ e_] W fun e w' => e = .returned (.bool true) ∧ Below W.heap.size W w' := fun m W A_ c_ B_ e_ h1 h2 => same_self m W A_ c_ B_ e_ h1 h2
 have HLo : ∀ (m : Nd) W A_ c_, KidsC W A_ c_ m.f5 → Calls Tryz.prog 16 #[nodeV m A_ c_] W fun e w' => e = .returned (.int .i64 (lostS m)) ∧ Below W.heap.size W w' := fun m W A_ c_ h => lostcount_calls (szN m + 1) m A_ c_ W (Nat.lt_succ_self _) h
 by_cases hf : farB r k = true
 ·rw [show shiftN r k n = zeroN by unfold shiftN; rw [if_pos hc, if_pos hf], show shiftE r k n = 2 by unfold shiftE; rw [if_pos hc, if_pos hf]] at HS1
  exact alike_err n zeroN r k A c w ⟨hK⟩ ⟨deep_no hd hK⟩ ⟨HC⟩ HL ⟨HS0⟩ ⟨HE n⟩ ⟨HS1⟩
 rw [show shiftN r k n = slideS r k n by unfold shiftN; rw [if_pos hc, if_neg hf], show shiftE r k n = 0 by unfold shiftE; rw [if_pos hc, if_neg hf]] at HS1
 by_cases hl : lostS n < lostS (slideS r k n)
 ·exact alike_lost n (slideS r k n) r k (lostS (slideS r k n)) (lostS n) hl A c w ⟨hK⟩ ⟨deep_no hd hK⟩ ⟨HC⟩ HL ⟨HS0⟩ ⟨HE n⟩ ⟨HS1⟩ ⟨HLo _⟩ ⟨HLo _⟩
 obtain ⟨hr, hk⟩ := far_bd hf
 have hn := kept_of_lost hc hl
 have hc2 : checkI (slideS r k n) = 0 := way_check (slid1_place r k) (slid2_place r k) n hc hn
 have e1 : wrap64 (-r) = -r := by simp only [wrap64]; omega
 have e2 : wrap64 (-k) = -k := by simp only [wrap64]; omega
 have HS2 : ∀ W A_ c_, Below w.heap.size w W → KidsC W A_ c_ (slideS r k n).f5 → Calls Tryz.prog 12 #[nodeV (slideS r k n) A_ c_, .int .i64 (wrap64 (-r)), .int .i64 (wrap64 (-k))] W (NodeIntOut n 0 W) := by
  intro W A_ c_ hW h
  have q := shift_calls (-r) (-k) (slideS r k n) A_ c_ W h (LaidAt hL0 hW)
  rw [show shiftN (-r) (-k) (slideS r k n) = n by unfold shiftN; rw [if_pos hc2, if_neg (far_not (by omega) (by omega)), slide_back hc hr hk hn], show shiftE (-r) (-k) (slideS r k n) = 0 by unfold shiftE; rw [if_pos hc2, if_neg (far_not (by omega) (by omega))]] at q
  rw [e1, e2]
  exact q
 exact alike_go n (slideS r k n) r k (lostS (slideS r k n)) (lostS n) hl A c w ⟨hK⟩ ⟨deep_no hd hK⟩ ⟨HC⟩ HL ⟨HS0⟩ ⟨HE n⟩ ⟨HS1⟩ ⟨HLo _⟩ ⟨HLo _⟩ ⟨HS2⟩
end Go.Proofs.YthnldbclbfpojaaGreatDoor.Pr
end
section
namespace Go.Proofs.YthnldbclbfpojaaGreatDoor.Pr
open Go.RowKit Go.Proofs.YthnldbclbfpojaaGreatDoorW.PrintWords Go.Proofs.YthnldbclbfpojaaGreatDoorW.PrintMore
theorem RewriteAlike_walk (n : Nd) (A : Option Addr) (c : Nat) (r k : Int) (w : World) (hK : KidsC w A c n.f5) (w1 : (Lit.int .i64 r).wf = true) (w2 : (Lit.int .i64 k).wf = true) (hL0 : Aside0 (LaidW w)) :
  Calls Tryz.prog 4 #[nodeV n A c, .int .i64 r, .int .i64 k] w fun e w' => e = .returned (.bool true) ∧ Below w.heap.size w w' :=
 RewriteAlike_node n r k A c w hK hL0
end Go.Proofs.YthnldbclbfpojaaGreatDoor.Pr
end
