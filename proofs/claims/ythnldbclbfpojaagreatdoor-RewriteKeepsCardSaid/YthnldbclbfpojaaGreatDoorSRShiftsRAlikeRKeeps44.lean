/-
  What the law RShiftsRAlikeRKeeps leans on, out of the texts that were printed and written for this seat: only what its proof mentions (gathered by a program of the author's).
-/
import Derived.Test.YthnldbclbfpojaaGreatDoorSRShiftsRAlikeRKeeps40
import Derived.Test.YthnldbclbfpojaaGreatDoorSRShiftsRAlikeRKeeps31
set_option maxHeartbeats 8000000
set_option maxRecDepth 100000
set_option linter.unusedVariables false
set_option linter.unusedSimpArgs false
section
namespace Go.Proofs.YthnldbclbfpojaaGreatDoor.Pr
open Go.RowKit Go.Proofs.YthnldbclbfpojaaGreatDoorW.PrintWords Go.Proofs.YthnldbclbfpojaaGreatDoorW.PrintLast Go.Proofs.YthnldbclbfpojaaGreatDoorW.PrintMore
theorem keeps_deep (n : Nd) (x y z r k p q : Int) (A : Option Addr) (c : Nat) (w : World) (HD : Aside0 (∀ W, Below w.heap.size w W → Calls Tryz.prog 9 #[nodeV n A c] W fun e w' => e = .returned (.bool true) ∧ Below W.heap.size W w'))
  (HL : Aside0 (∀ W, Below w.heap.size w W → Calls Tryz.prog 10 #[] W fun e w' => e = .returned (.bool true) ∧ Below W.heap.size W w')) :
  Calls Tryz.prog 5 #[nodeV n A c, .agg (edA x y z), .int .i64 r, .int .i64 k] w fun e w' => e = .returned (.bool true) ∧ Below w.heap.size w w' := by
 have HB0 := Aside0.mk (bel2 w (.cells (nodeA n A c) 33) (.cells (edA x y z) 47))
 have BX_0 := Aside0.mk (blk_alloc (newBlk w (.cells (nodeA n A c) 33)) (.cells (edA x y z) 47))
 have BY_0 := Aside0.mk (newBlk2 w (.cells (nodeA n A c) 33) (.cells (edA x y z) 47))
 go_enter Tryz.func5, Tryz.ntmps5
 go_wp2_with (first
  | ((with_reducible refine gate_dst (N := 13) rfl ?_); (refine gate_guard (by rfl) ?_; dsimp only); refine wpPartLd 13 rfl rfl 33 (.tmp 4) rfl _ rfl _ (nodeA n A c) [] (BX_0.out) rfl Tryz.underlying33 rfl (by kernel_rfl) ?_)
  | (go_at_call 9; (with_reducible refine (HD.out _ HB0.out).mono ?_); rintro e x1 ⟨rfl, hb⟩; have HB1 := Aside0.mk (below_step HB0.out hb); have BX_1 := Aside0.mk (blk_below BX_0.out hb); have BY_1 := Aside0.mk (blk_below BY_0.out hb); clear hb HB0 BX_0 BY_0)
  | (go_at_call 10; (with_reducible refine (HL.out _ HB1.out).mono ?_); rintro e x2 ⟨rfl, hb⟩; have HB2 := Aside0.mk (below_step HB1.out hb); have BX_2 := Aside0.mk (blk_below BX_1.out hb); have BY_2 := Aside0.mk (blk_below BY_1.out hb); clear hb HB1 BX_1 BY_1))
 go_ret
 exact ⟨rfl, HB2.out⟩
theorem keeps_go0 (n m o : Nd) (x y z r k p q : Int) (A : Option Addr) (c : Nat) (w : World) (HKn : Aside0 (KidsC w A c n.f5))
  (HD : Aside0 (∀ W, Below w.heap.size w W → Calls Tryz.prog 9 #[nodeV n A c] W fun e w' => e = .returned (.bool false) ∧ Below W.heap.size W w'))
  (HL : Aside0 (∀ W, Below w.heap.size w W → Calls Tryz.prog 10 #[] W fun e w' => e = .returned (.bool true) ∧ Below W.heap.size W w'))
  (HM : Aside0 (∀ W A_ c_, Below w.heap.size w W → KidsC W A_ c_ n.f5 → Calls Tryz.prog 17 #[nodeV n A_ c_, .agg (edA x y z)] W (NodeIntOut m 0 W)))
  (HS : Aside0 (∀ W A_ c_, Below w.heap.size w W → KidsC W A_ c_ n.f5 → Calls Tryz.prog 12 #[nodeV n A_ c_, .int .i64 r, .int .i64 k] W (NodeIntOut o 0 W)))
  (HP : Aside0 (∀ W A_ c_ B_ e_, KidsC W A_ c_ n.f5 → KidsC W B_ e_ m.f5 → Calls Tryz.prog 18 #[nodeV n A_ c_, nodeV m B_ e_] W fun e w' => e = .returned (.bool true) ∧ Below W.heap.size W w'))
  (HP2 : Aside0 (∀ W A_ c_ B_ e_, KidsC W A_ c_ n.f5 → KidsC W B_ e_ o.f5 → Calls Tryz.prog 18 #[nodeV n A_ c_, nodeV o B_ e_] W fun e w' => e = .returned (.bool true) ∧ Below W.heap.size W w')) :
  Calls Tryz.prog 5 #[nodeV n A c, .agg (edA x y z), .int .i64 r, .int .i64 k] w fun e w' => e = .returned (.bool true) ∧ Below w.heap.size w w' := by
 have HB0 := Aside0.mk (bel2 w (.cells (nodeA n A c) 33) (.cells (edA x y z) 47))
 have BX_0 := Aside0.mk (blk_alloc (newBlk w (.cells (nodeA n A c) 33)) (.cells (edA x y z) 47))
 have BY_0 := Aside0.mk (newBlk2 w (.cells (nodeA n A c) 33) (.cells (edA x y z) 47))
 go_enter Tryz.func5, Tryz.ntmps5
 go_wp2_with (first
  | ((with_reducible refine gate_dst (N := 13) rfl ?_); (refine gate_guard (by rfl) ?_; dsimp only); refine wpPartLd 13 rfl rfl 33 (.tmp 4) rfl _ rfl _ (nodeA n A c) [] (BX_0.out) rfl Tryz.underlying33 rfl (by kernel_rfl) ?_)
  | (go_at_call 9; (with_reducible refine (HD.out _ HB0.out).mono ?_); rintro e x1 ⟨rfl, hb⟩; have HB1 := Aside0.mk (below_step HB0.out hb); have BX_1 := Aside0.mk (blk_below BX_0.out hb); have BY_1 := Aside0.mk (blk_below BY_0.out hb); clear hb HB0 BX_0 BY_0)
  | ((with_reducible refine gate_dst (N := 17) rfl ?_); (refine gate_guard (by rfl) ?_; dsimp only); refine wpPartLd 17 rfl rfl 33 (.tmp 4) rfl _ rfl _ (nodeA n A c) [] (BX_1.out) rfl Tryz.underlying33 rfl (by kernel_rfl) ?_)
  | ((with_reducible refine gate_dst (N := 18) rfl ?_); (refine gate_guard (by rfl) ?_; dsimp only); refine wpPartLd 18 rfl rfl 47 (.tmp 5) rfl _ rfl _ (edA x y z) [] (BY_1.out) rfl Tryz.underlying47 rfl (by kernel_rfl) ?_)
  | (go_at_call 17; (with_reducible refine (HM.out _ _ _ HB1.out (HKn.out.below HB1.out)).mono ?_); rintro e x2 ⟨A9, c9, rfl, hF, hb⟩; have HB2 := Aside0.mk (below_step HB1.out hb); have BX_2 := Aside0.mk (blk_below BX_1.out hb); have BY_2 := Aside0.mk (blk_below BY_1.out hb); have N9 := Aside0.mk (heldNew hF); clear hb hF HB1 BX_1 BY_1)
  | ((with_reducible refine gate_store (t := 33) (p := 9) (v := .tmp 20) rfl ?_); refine wpRowSt rfl 33 (.tmp 9) (.tmp 20) rfl (x2.heap.size) (nodeA m A9 c9) rfl rfl 33 _ (newBlk x2 _) (by kernel_rfl) rfl rfl ?_; have HB3 := Aside0.mk (rowBelow (below_alloc HB2.out (.cells Z16 33)) HB2.out.size (nodeA m A9 c9)); have F9_3 := Aside0.mk N9.out; have BX_3 := Aside0.mk (boxStore BX_2.out (nodeA m A9 c9) (.cells Z16 33)); have BY_3 := Aside0.mk (boxStore BY_2.out (nodeA m A9 c9) (.cells Z16 33)); clear N9 HB2 BX_2 BY_2)
  | ((with_reducible refine gate_dst (N := 23) rfl ?_); (refine gate_guard (by rfl) ?_; dsimp only); refine wpPartLd 23 rfl rfl 33 (.tmp 4) rfl _ rfl _ (nodeA n A c) [] (BX_3.out) rfl Tryz.underlying33 rfl (by kernel_rfl) ?_)
  | (go_at_call 12; (with_reducible refine (HS.out _ _ _ HB3.out (HKn.out.below HB3.out)).mono ?_); rintro e x4 ⟨A11, c11, rfl, hF, hb⟩; have HB4 := Aside0.mk (below_step HB3.out hb); have BX_4 := Aside0.mk (blk_below BX_3.out hb); have BY_4 := Aside0.mk (blk_below BY_3.out hb); have F9_4 := Aside0.mk (F9_3.out.below hb); have N11 := Aside0.mk (heldNew hF); clear hb hF HB3 BX_3 BY_3 F9_3)
  | ((with_reducible refine gate_store (t := 33) (p := 11) (v := .tmp 27) rfl ?_); refine wpRowSt rfl 33 (.tmp 11) (.tmp 27) rfl (x4.heap.size) (nodeA o A11 c11) rfl rfl 33 _ (newBlk x4 _) (by kernel_rfl) rfl rfl ?_; have HB5 := Aside0.mk (rowBelow (below_alloc HB4.out (.cells Z16 33)) HB4.out.size (nodeA o A11 c11)); have F11_5 := Aside0.mk N11.out; have BX_5 := Aside0.mk (boxStore BX_4.out (nodeA o A11 c11) (.cells Z16 33)); have BY_5 := Aside0.mk (boxStore BY_4.out (nodeA o A11 c11) (.cells Z16 33)); have F9_5 := Aside0.mk (F9_4.out.store (nodeA o A11 c11) (.cells Z16 33)); clear N11 HB4 BX_4 BY_4 F9_4)
  | ((with_reducible refine gate_dst (N := 32) rfl ?_); (refine gate_guard (by rfl) ?_; dsimp only); refine wpPartLd 32 rfl rfl 33 (.tmp 4) rfl _ rfl _ (nodeA n A c) [] (BX_5.out) rfl Tryz.underlying33 rfl (by kernel_rfl) ?_)
  | ((with_reducible refine gate_dst (N := 33) rfl ?_); (refine gate_guard (by rfl) ?_; dsimp only); refine wpPartLd 33 rfl rfl 33 (.tmp 9) rfl _ rfl _ (nodeA m A9 c9) [] (F9_5.out.1) rfl Tryz.underlying33 rfl (by kernel_rfl) ?_)
  | (go_at_call 18; (with_reducible refine (HP.out _ _ _ _ _ (HKn.out.below HB5.out) F9_5.out.now).mono ?_); rintro e x6 ⟨rfl, hb⟩; have HB6 := Aside0.mk (below_step HB5.out hb); have BX_6 := Aside0.mk (blk_below BX_5.out hb); have BY_6 := Aside0.mk (blk_below BY_5.out hb); have F9_6 := Aside0.mk (F9_5.out.below hb); have F11_6 := Aside0.mk (F11_5.out.below hb); clear hb HB5 BX_5 BY_5 F9_5 F11_5)
  | ((with_reducible refine gate_dst (N := 40) rfl ?_); (refine gate_guard (by rfl) ?_; dsimp only); refine wpPartLd 40 rfl rfl 33 (.tmp 4) rfl _ rfl _ (nodeA n A c) [] (BX_6.out) rfl Tryz.underlying33 rfl (by kernel_rfl) ?_)
  | ((with_reducible refine gate_dst (N := 41) rfl ?_); (refine gate_guard (by rfl) ?_; dsimp only); refine wpPartLd 41 rfl rfl 33 (.tmp 11) rfl _ rfl _ (nodeA o A11 c11) [] (F11_6.out.1) rfl Tryz.underlying33 rfl (by kernel_rfl) ?_)
  | (go_at_call 18; (with_reducible refine (HP2.out _ _ _ _ _ (HKn.out.below HB6.out) F11_6.out.now).mono ?_); rintro e x7 ⟨rfl, hb⟩; have HB7 := Aside0.mk (below_step HB6.out hb); have BX_7 := Aside0.mk (blk_below BX_6.out hb); have BY_7 := Aside0.mk (blk_below BY_6.out hb); have F9_7 := Aside0.mk (F9_6.out.below hb); have F11_7 := Aside0.mk (F11_6.out.below hb); clear hb HB6 BX_6 BY_6 F9_6 F11_6)
  | (go_at_call 10; (with_reducible refine (HL.out _ HB7.out).mono ?_); rintro e x8 ⟨rfl, hb⟩; have HB8 := Aside0.mk (below_step HB7.out hb); have BX_8 := Aside0.mk (blk_below BX_7.out hb); have BY_8 := Aside0.mk (blk_below BY_7.out hb); have F9_8 := Aside0.mk (F9_7.out.below hb); have F11_8 := Aside0.mk (F11_7.out.below hb); clear hb HB7 BX_7 BY_7 F9_7 F11_7))
 go_ret
 exact ⟨rfl, HB8.out⟩
theorem keeps_go1 (n m o : Nd) (x y z r k p q : Int) (hq : ¬q = 0) (A : Option Addr) (c : Nat) (w : World) (HKn : Aside0 (KidsC w A c n.f5))
  (HD : Aside0 (∀ W, Below w.heap.size w W → Calls Tryz.prog 9 #[nodeV n A c] W fun e w' => e = .returned (.bool false) ∧ Below W.heap.size W w'))
  (HL : Aside0 (∀ W, Below w.heap.size w W → Calls Tryz.prog 10 #[] W fun e w' => e = .returned (.bool true) ∧ Below W.heap.size W w'))
  (HM : Aside0 (∀ W A_ c_, Below w.heap.size w W → KidsC W A_ c_ n.f5 → Calls Tryz.prog 17 #[nodeV n A_ c_, .agg (edA x y z)] W (NodeIntOut m 0 W)))
  (HS : Aside0 (∀ W A_ c_, Below w.heap.size w W → KidsC W A_ c_ n.f5 → Calls Tryz.prog 12 #[nodeV n A_ c_, .int .i64 r, .int .i64 k] W (NodeIntOut o q W)))
  (HP : Aside0 (∀ W A_ c_ B_ e_, KidsC W A_ c_ n.f5 → KidsC W B_ e_ m.f5 → Calls Tryz.prog 18 #[nodeV n A_ c_, nodeV m B_ e_] W fun e w' => e = .returned (.bool true) ∧ Below W.heap.size W w')) :
  Calls Tryz.prog 5 #[nodeV n A c, .agg (edA x y z), .int .i64 r, .int .i64 k] w fun e w' => e = .returned (.bool true) ∧ Below w.heap.size w w' := by
 have HB0 := Aside0.mk (bel2 w (.cells (nodeA n A c) 33) (.cells (edA x y z) 47))
 have BX_0 := Aside0.mk (blk_alloc (newBlk w (.cells (nodeA n A c) 33)) (.cells (edA x y z) 47))
 have BY_0 := Aside0.mk (newBlk2 w (.cells (nodeA n A c) 33) (.cells (edA x y z) 47))
 go_enter Tryz.func5, Tryz.ntmps5
 go_wp2_with (first
  | ((with_reducible refine gate_dst (N := 13) rfl ?_); (refine gate_guard (by rfl) ?_; dsimp only); refine wpPartLd 13 rfl rfl 33 (.tmp 4) rfl _ rfl _ (nodeA n A c) [] (BX_0.out) rfl Tryz.underlying33 rfl (by kernel_rfl) ?_)
  | (go_at_call 9; (with_reducible refine (HD.out _ HB0.out).mono ?_); rintro e x1 ⟨rfl, hb⟩; have HB1 := Aside0.mk (below_step HB0.out hb); have BX_1 := Aside0.mk (blk_below BX_0.out hb); have BY_1 := Aside0.mk (blk_below BY_0.out hb); clear hb HB0 BX_0 BY_0)
  | ((with_reducible refine gate_dst (N := 17) rfl ?_); (refine gate_guard (by rfl) ?_; dsimp only); refine wpPartLd 17 rfl rfl 33 (.tmp 4) rfl _ rfl _ (nodeA n A c) [] (BX_1.out) rfl Tryz.underlying33 rfl (by kernel_rfl) ?_)
  | ((with_reducible refine gate_dst (N := 18) rfl ?_); (refine gate_guard (by rfl) ?_; dsimp only); refine wpPartLd 18 rfl rfl 47 (.tmp 5) rfl _ rfl _ (edA x y z) [] (BY_1.out) rfl Tryz.underlying47 rfl (by kernel_rfl) ?_)
  | (go_at_call 17; (with_reducible refine (HM.out _ _ _ HB1.out (HKn.out.below HB1.out)).mono ?_); rintro e x2 ⟨A9, c9, rfl, hF, hb⟩; have HB2 := Aside0.mk (below_step HB1.out hb); have BX_2 := Aside0.mk (blk_below BX_1.out hb); have BY_2 := Aside0.mk (blk_below BY_1.out hb); have N9 := Aside0.mk (heldNew hF); clear hb hF HB1 BX_1 BY_1)
  | ((with_reducible refine gate_store (t := 33) (p := 9) (v := .tmp 20) rfl ?_); refine wpRowSt rfl 33 (.tmp 9) (.tmp 20) rfl (x2.heap.size) (nodeA m A9 c9) rfl rfl 33 _ (newBlk x2 _) (by kernel_rfl) rfl rfl ?_; have HB3 := Aside0.mk (rowBelow (below_alloc HB2.out (.cells Z16 33)) HB2.out.size (nodeA m A9 c9)); have F9_3 := Aside0.mk N9.out; have BX_3 := Aside0.mk (boxStore BX_2.out (nodeA m A9 c9) (.cells Z16 33)); have BY_3 := Aside0.mk (boxStore BY_2.out (nodeA m A9 c9) (.cells Z16 33)); clear N9 HB2 BX_2 BY_2)
  | ((with_reducible refine gate_dst (N := 23) rfl ?_); (refine gate_guard (by rfl) ?_; dsimp only); refine wpPartLd 23 rfl rfl 33 (.tmp 4) rfl _ rfl _ (nodeA n A c) [] (BX_3.out) rfl Tryz.underlying33 rfl (by kernel_rfl) ?_)
  | (go_at_call 12; (with_reducible refine (HS.out _ _ _ HB3.out (HKn.out.below HB3.out)).mono ?_); rintro e x4 ⟨A11, c11, rfl, hF, hb⟩; have HB4 := Aside0.mk (below_step HB3.out hb); have BX_4 := Aside0.mk (blk_below BX_3.out hb); have BY_4 := Aside0.mk (blk_below BY_3.out hb); have F9_4 := Aside0.mk (F9_3.out.below hb); have N11 := Aside0.mk (heldNew hF); clear hb hF HB3 BX_3 BY_3 F9_3)
  | ((with_reducible refine gate_store (t := 33) (p := 11) (v := .tmp 27) rfl ?_); refine wpRowSt rfl 33 (.tmp 11) (.tmp 27) rfl (x4.heap.size) (nodeA o A11 c11) rfl rfl 33 _ (newBlk x4 _) (by kernel_rfl) rfl rfl ?_; have HB5 := Aside0.mk (rowBelow (below_alloc HB4.out (.cells Z16 33)) HB4.out.size (nodeA o A11 c11)); have F11_5 := Aside0.mk N11.out; have BX_5 := Aside0.mk (boxStore BX_4.out (nodeA o A11 c11) (.cells Z16 33)); have BY_5 := Aside0.mk (boxStore BY_4.out (nodeA o A11 c11) (.cells Z16 33)); have F9_5 := Aside0.mk (F9_4.out.store (nodeA o A11 c11) (.cells Z16 33)); clear N11 HB4 BX_4 BY_4 F9_4)
  | ((with_reducible refine gate_dst (N := 32) rfl ?_); (refine gate_guard (by rfl) ?_; dsimp only); refine wpPartLd 32 rfl rfl 33 (.tmp 4) rfl _ rfl _ (nodeA n A c) [] (BX_5.out) rfl Tryz.underlying33 rfl (by kernel_rfl) ?_)
  | ((with_reducible refine gate_dst (N := 33) rfl ?_); (refine gate_guard (by rfl) ?_; dsimp only); refine wpPartLd 33 rfl rfl 33 (.tmp 9) rfl _ rfl _ (nodeA m A9 c9) [] (F9_5.out.1) rfl Tryz.underlying33 rfl (by kernel_rfl) ?_)
  | (go_at_call 18; (with_reducible refine (HP.out _ _ _ _ _ (HKn.out.below HB5.out) F9_5.out.now).mono ?_); rintro e x6 ⟨rfl, hb⟩; have HB6 := Aside0.mk (below_step HB5.out hb); have BX_6 := Aside0.mk (blk_below BX_5.out hb); have BY_6 := Aside0.mk (blk_below BY_5.out hb); have F9_6 := Aside0.mk (F9_5.out.below hb); have F11_6 := Aside0.mk (F11_5.out.below hb); clear hb HB5 BX_5 BY_5 F9_5 F11_5)
  | (go_at_call 10; (with_reducible refine (HL.out _ HB6.out).mono ?_); rintro e x7 ⟨rfl, hb⟩; have HB7 := Aside0.mk (below_step HB6.out hb); have BX_7 := Aside0.mk (blk_below BX_6.out hb); have BY_7 := Aside0.mk (blk_below BY_6.out hb); have F9_7 := Aside0.mk (F9_6.out.below hb); have F11_7 := Aside0.mk (F11_6.out.below hb); clear hb HB6 BX_6 BY_6 F9_6 F11_6))
 go_ret
 exact ⟨rfl, HB7.out⟩
theorem keeps_go2 (n m o : Nd) (x y z r k p q : Int) (hp : ¬p = 0) (A : Option Addr) (c : Nat) (w : World) (HKn : Aside0 (KidsC w A c n.f5))
  (HD : Aside0 (∀ W, Below w.heap.size w W → Calls Tryz.prog 9 #[nodeV n A c] W fun e w' => e = .returned (.bool false) ∧ Below W.heap.size W w'))
  (HL : Aside0 (∀ W, Below w.heap.size w W → Calls Tryz.prog 10 #[] W fun e w' => e = .returned (.bool true) ∧ Below W.heap.size W w'))
  (HM : Aside0 (∀ W A_ c_, Below w.heap.size w W → KidsC W A_ c_ n.f5 → Calls Tryz.prog 17 #[nodeV n A_ c_, .agg (edA x y z)] W (NodeIntOut m p W)))
  (HS : Aside0 (∀ W A_ c_, Below w.heap.size w W → KidsC W A_ c_ n.f5 → Calls Tryz.prog 12 #[nodeV n A_ c_, .int .i64 r, .int .i64 k] W (NodeIntOut o 0 W)))
  (HP2 : Aside0 (∀ W A_ c_ B_ e_, KidsC W A_ c_ n.f5 → KidsC W B_ e_ o.f5 → Calls Tryz.prog 18 #[nodeV n A_ c_, nodeV o B_ e_] W fun e w' => e = .returned (.bool true) ∧ Below W.heap.size W w')) :
  Calls Tryz.prog 5 #[nodeV n A c, .agg (edA x y z), .int .i64 r, .int .i64 k] w fun e w' => e = .returned (.bool true) ∧ Below w.heap.size w w' := by
 have HB0 := Aside0.mk (bel2 w (.cells (nodeA n A c) 33) (.cells (edA x y z) 47))
 have BX_0 := Aside0.mk (blk_alloc (newBlk w (.cells (nodeA n A c) 33)) (.cells (edA x y z) 47))
 have BY_0 := Aside0.mk (newBlk2 w (.cells (nodeA n A c) 33) (.cells (edA x y z) 47))
 go_enter Tryz.func5, Tryz.ntmps5
 go_wp2_with (first
  | ((with_reducible refine gate_dst (N := 13) rfl ?_); (refine gate_guard (by rfl) ?_; dsimp only); refine wpPartLd 13 rfl rfl 33 (.tmp 4) rfl _ rfl _ (nodeA n A c) [] (BX_0.out) rfl Tryz.underlying33 rfl (by kernel_rfl) ?_)
  | (go_at_call 9; (with_reducible refine (HD.out _ HB0.out).mono ?_); rintro e x1 ⟨rfl, hb⟩; have HB1 := Aside0.mk (below_step HB0.out hb); have BX_1 := Aside0.mk (blk_below BX_0.out hb); have BY_1 := Aside0.mk (blk_below BY_0.out hb); clear hb HB0 BX_0 BY_0)
  | ((with_reducible refine gate_dst (N := 17) rfl ?_); (refine gate_guard (by rfl) ?_; dsimp only); refine wpPartLd 17 rfl rfl 33 (.tmp 4) rfl _ rfl _ (nodeA n A c) [] (BX_1.out) rfl Tryz.underlying33 rfl (by kernel_rfl) ?_)
  | ((with_reducible refine gate_dst (N := 18) rfl ?_); (refine gate_guard (by rfl) ?_; dsimp only); refine wpPartLd 18 rfl rfl 47 (.tmp 5) rfl _ rfl _ (edA x y z) [] (BY_1.out) rfl Tryz.underlying47 rfl (by kernel_rfl) ?_)
  | (go_at_call 17; (with_reducible refine (HM.out _ _ _ HB1.out (HKn.out.below HB1.out)).mono ?_); rintro e x2 ⟨A9, c9, rfl, hF, hb⟩; have HB2 := Aside0.mk (below_step HB1.out hb); have BX_2 := Aside0.mk (blk_below BX_1.out hb); have BY_2 := Aside0.mk (blk_below BY_1.out hb); have N9 := Aside0.mk (heldNew hF); clear hb hF HB1 BX_1 BY_1)
  | ((with_reducible refine gate_store (t := 33) (p := 9) (v := .tmp 20) rfl ?_); refine wpRowSt rfl 33 (.tmp 9) (.tmp 20) rfl (x2.heap.size) (nodeA m A9 c9) rfl rfl 33 _ (newBlk x2 _) (by kernel_rfl) rfl rfl ?_; have HB3 := Aside0.mk (rowBelow (below_alloc HB2.out (.cells Z16 33)) HB2.out.size (nodeA m A9 c9)); have F9_3 := Aside0.mk N9.out; have BX_3 := Aside0.mk (boxStore BX_2.out (nodeA m A9 c9) (.cells Z16 33)); have BY_3 := Aside0.mk (boxStore BY_2.out (nodeA m A9 c9) (.cells Z16 33)); clear N9 HB2 BX_2 BY_2)
  | ((with_reducible refine gate_dst (N := 23) rfl ?_); (refine gate_guard (by rfl) ?_; dsimp only); refine wpPartLd 23 rfl rfl 33 (.tmp 4) rfl _ rfl _ (nodeA n A c) [] (BX_3.out) rfl Tryz.underlying33 rfl (by kernel_rfl) ?_)
  | (go_at_call 12; (with_reducible refine (HS.out _ _ _ HB3.out (HKn.out.below HB3.out)).mono ?_); rintro e x4 ⟨A11, c11, rfl, hF, hb⟩; have HB4 := Aside0.mk (below_step HB3.out hb); have BX_4 := Aside0.mk (blk_below BX_3.out hb); have BY_4 := Aside0.mk (blk_below BY_3.out hb); have F9_4 := Aside0.mk (F9_3.out.below hb); have N11 := Aside0.mk (heldNew hF); clear hb hF HB3 BX_3 BY_3 F9_3)
  | ((with_reducible refine gate_store (t := 33) (p := 11) (v := .tmp 27) rfl ?_); refine wpRowSt rfl 33 (.tmp 11) (.tmp 27) rfl (x4.heap.size) (nodeA o A11 c11) rfl rfl 33 _ (newBlk x4 _) (by kernel_rfl) rfl rfl ?_; have HB5 := Aside0.mk (rowBelow (below_alloc HB4.out (.cells Z16 33)) HB4.out.size (nodeA o A11 c11)); have F11_5 := Aside0.mk N11.out; have BX_5 := Aside0.mk (boxStore BX_4.out (nodeA o A11 c11) (.cells Z16 33)); have BY_5 := Aside0.mk (boxStore BY_4.out (nodeA o A11 c11) (.cells Z16 33)); have F9_5 := Aside0.mk (F9_4.out.store (nodeA o A11 c11) (.cells Z16 33)); clear N11 HB4 BX_4 BY_4 F9_4)
  | ((with_reducible refine gate_dst (N := 40) rfl ?_); (refine gate_guard (by rfl) ?_; dsimp only); refine wpPartLd 40 rfl rfl 33 (.tmp 4) rfl _ rfl _ (nodeA n A c) [] (BX_5.out) rfl Tryz.underlying33 rfl (by kernel_rfl) ?_)
  | ((with_reducible refine gate_dst (N := 41) rfl ?_); (refine gate_guard (by rfl) ?_; dsimp only); refine wpPartLd 41 rfl rfl 33 (.tmp 11) rfl _ rfl _ (nodeA o A11 c11) [] (F11_5.out.1) rfl Tryz.underlying33 rfl (by kernel_rfl) ?_)
  | (go_at_call 18; (with_reducible refine (HP2.out _ _ _ _ _ (HKn.out.below HB5.out) F11_5.out.now).mono ?_); rintro e x6 ⟨rfl, hb⟩; have HB6 := Aside0.mk (below_step HB5.out hb); have BX_6 := Aside0.mk (blk_below BX_5.out hb); have BY_6 := Aside0.mk (blk_below BY_5.out hb); have F9_6 := Aside0.mk (F9_5.out.below hb); have F11_6 := Aside0.mk (F11_5.out.below hb); clear hb HB5 BX_5 BY_5 F9_5 F11_5)
  | (go_at_call 10; (with_reducible refine (HL.out _ HB6.out).mono ?_); rintro e x7 ⟨rfl, hb⟩; have HB7 := Aside0.mk (below_step HB6.out hb); have BX_7 := Aside0.mk (blk_below BX_6.out hb); have BY_7 := Aside0.mk (blk_below BY_6.out hb); have F9_7 := Aside0.mk (F9_6.out.below hb); have F11_7 := Aside0.mk (F11_6.out.below hb); clear hb HB6 BX_6 BY_6 F9_6 F11_6))
 go_ret
 exact ⟨rfl, HB7.out⟩
theorem keeps_go3 (n m o : Nd) (x y z r k p q : Int) (hp : ¬p = 0) (hq : ¬q = 0) (A : Option Addr) (c : Nat) (w : World) (HKn : Aside0 (KidsC w A c n.f5))
  (HD : Aside0 (∀ W, Below w.heap.size w W → Calls Tryz.prog 9 #[nodeV n A c] W fun e w' => e = .returned (.bool false) ∧ Below W.heap.size W w'))
  (HL : Aside0 (∀ W, Below w.heap.size w W → Calls Tryz.prog 10 #[] W fun e w' => e = .returned (.bool true) ∧ Below W.heap.size W w'))
  (HM : Aside0 (∀ W A_ c_, Below w.heap.size w W → KidsC W A_ c_ n.f5 → Calls Tryz.prog 17 #[nodeV n A_ c_, .agg (edA x y z)] W (NodeIntOut m p W)))
  (HS : Aside0 (∀ W A_ c_, Below w.heap.size w W → KidsC W A_ c_ n.f5 → Calls Tryz.prog 12 #[nodeV n A_ c_, .int .i64 r, .int .i64 k] W (NodeIntOut o q W))) :
  Calls Tryz.prog 5 #[nodeV n A c, .agg (edA x y z), .int .i64 r, .int .i64 k] w fun e w' => e = .returned (.bool true) ∧ Below w.heap.size w w' := by
 have HB0 := Aside0.mk (bel2 w (.cells (nodeA n A c) 33) (.cells (edA x y z) 47))
 have BX_0 := Aside0.mk (blk_alloc (newBlk w (.cells (nodeA n A c) 33)) (.cells (edA x y z) 47))
 have BY_0 := Aside0.mk (newBlk2 w (.cells (nodeA n A c) 33) (.cells (edA x y z) 47))
 go_enter Tryz.func5, Tryz.ntmps5
 go_wp2_with (first
  | ((with_reducible refine gate_dst (N := 13) rfl ?_); (refine gate_guard (by rfl) ?_; dsimp only); refine wpPartLd 13 rfl rfl 33 (.tmp 4) rfl _ rfl _ (nodeA n A c) [] (BX_0.out) rfl Tryz.underlying33 rfl (by kernel_rfl) ?_)
  | (go_at_call 9; (with_reducible refine (HD.out _ HB0.out).mono ?_); rintro e x1 ⟨rfl, hb⟩; have HB1 := Aside0.mk (below_step HB0.out hb); have BX_1 := Aside0.mk (blk_below BX_0.out hb); have BY_1 := Aside0.mk (blk_below BY_0.out hb); clear hb HB0 BX_0 BY_0)
  | ((with_reducible refine gate_dst (N := 17) rfl ?_); (refine gate_guard (by rfl) ?_; dsimp only); refine wpPartLd 17 rfl rfl 33 (.tmp 4) rfl _ rfl _ (nodeA n A c) [] (BX_1.out) rfl Tryz.underlying33 rfl (by kernel_rfl) ?_)
  | ((with_reducible refine gate_dst (N := 18) rfl ?_); (refine gate_guard (by rfl) ?_; dsimp only); refine wpPartLd 18 rfl rfl 47 (.tmp 5) rfl _ rfl _ (edA x y z) [] (BY_1.out) rfl Tryz.underlying47 rfl (by kernel_rfl) ?_)
  | (go_at_call 17; (with_reducible refine (HM.out _ _ _ HB1.out (HKn.out.below HB1.out)).mono ?_); rintro e x2 ⟨A9, c9, rfl, hF, hb⟩; have HB2 := Aside0.mk (below_step HB1.out hb); have BX_2 := Aside0.mk (blk_below BX_1.out hb); have BY_2 := Aside0.mk (blk_below BY_1.out hb); have N9 := Aside0.mk (heldNew hF); clear hb hF HB1 BX_1 BY_1)
  | ((with_reducible refine gate_store (t := 33) (p := 9) (v := .tmp 20) rfl ?_); refine wpRowSt rfl 33 (.tmp 9) (.tmp 20) rfl (x2.heap.size) (nodeA m A9 c9) rfl rfl 33 _ (newBlk x2 _) (by kernel_rfl) rfl rfl ?_; have HB3 := Aside0.mk (rowBelow (below_alloc HB2.out (.cells Z16 33)) HB2.out.size (nodeA m A9 c9)); have F9_3 := Aside0.mk N9.out; have BX_3 := Aside0.mk (boxStore BX_2.out (nodeA m A9 c9) (.cells Z16 33)); have BY_3 := Aside0.mk (boxStore BY_2.out (nodeA m A9 c9) (.cells Z16 33)); clear N9 HB2 BX_2 BY_2)
  | ((with_reducible refine gate_dst (N := 23) rfl ?_); (refine gate_guard (by rfl) ?_; dsimp only); refine wpPartLd 23 rfl rfl 33 (.tmp 4) rfl _ rfl _ (nodeA n A c) [] (BX_3.out) rfl Tryz.underlying33 rfl (by kernel_rfl) ?_)
  | (go_at_call 12; (with_reducible refine (HS.out _ _ _ HB3.out (HKn.out.below HB3.out)).mono ?_); rintro e x4 ⟨A11, c11, rfl, hF, hb⟩; have HB4 := Aside0.mk (below_step HB3.out hb); have BX_4 := Aside0.mk (blk_below BX_3.out hb); have BY_4 := Aside0.mk (blk_below BY_3.out hb); have F9_4 := Aside0.mk (F9_3.out.below hb); have N11 := Aside0.mk (heldNew hF); clear hb hF HB3 BX_3 BY_3 F9_3)
  | ((with_reducible refine gate_store (t := 33) (p := 11) (v := .tmp 27) rfl ?_); refine wpRowSt rfl 33 (.tmp 11) (.tmp 27) rfl (x4.heap.size) (nodeA o A11 c11) rfl rfl 33 _ (newBlk x4 _) (by kernel_rfl) rfl rfl ?_; have HB5 := Aside0.mk (rowBelow (below_alloc HB4.out (.cells Z16 33)) HB4.out.size (nodeA o A11 c11)); have F11_5 := Aside0.mk N11.out; have BX_5 := Aside0.mk (boxStore BX_4.out (nodeA o A11 c11) (.cells Z16 33)); have BY_5 := Aside0.mk (boxStore BY_4.out (nodeA o A11 c11) (.cells Z16 33)); have F9_5 := Aside0.mk (F9_4.out.store (nodeA o A11 c11) (.cells Z16 33)); clear N11 HB4 BX_4 BY_4 F9_4)
  | (go_at_call 10; (with_reducible refine (HL.out _ HB5.out).mono ?_); rintro e x6 ⟨rfl, hb⟩; have HB6 := Aside0.mk (below_step HB5.out hb); have BX_6 := Aside0.mk (blk_below BX_5.out hb); have BY_6 := Aside0.mk (blk_below BY_5.out hb); have F9_6 := Aside0.mk (F9_5.out.below hb); have F11_6 := Aside0.mk (F11_5.out.below hb); clear hb HB5 BX_5 BY_5 F9_5 F11_5))
 go_ret
 exact ⟨rfl, HB6.out⟩
theorem slid1_fix (r k : Int) (c c' : Ce) (h : slid1 r k c = some c') : c'.f1 = c.f1 := by
 unfold slid1 at h
 split at h
 ·cases h; rfl
 ·cases h
theorem slid2_fix (r k : Int) (c t : Ce) (p : Ce × Ce) (h : slid2 r k c t = some p) : p.1.f1 = c.f1 ∧ p.2.f2 = t.f2 := by
 unfold slid2 at h
 split at h
 ·cases h; exact ⟨rfl, rfl⟩
 ·cases h
theorem way1_fix (a b d : Int) (c c' : Ce) (h : way1 (movC a b d) (movB a b d) c = some c') : c'.f1 = c.f1 := by
 unfold way1 at h
 split at h
 ·cases h; rfl
 ·cases h
theorem way2_fix (a b d : Int) (c t : Ce) (p : Ce × Ce) (h : way2 (movX a b d) (movY a b d) (fun p q => (movR a b d p q).2.1) c t = some p) : p.1.f1 = c.f1 ∧ p.2.f2 = t.f2 := by
 unfold way2 at h
 split at h
 ·cases h; exact ⟨rfl, rfl⟩
 ·cases h
theorem shape_of {C : Ce → Option Ce} {D : Ce → Ce → Option (Ce × Ce)} (hC : ∀ c c', C c = some c' → c'.f1 = c.f1) (hD : ∀ c t p, D c t = some p → p.1.f1 = c.f1 ∧ p.2.f2 = t.f2) (n : Nd) :
  ∀ W A_ c_ B_ e_, KidsC W A_ c_ n.f5 → KidsC W B_ e_ (wayS C D n).f5 → Calls Tryz.prog 18 #[nodeV n A_ c_, nodeV (wayS C D n) B_ e_] W fun e w' => e = .returned (.bool true) ∧ Below W.heap.size W w' :=
 fun W A_ c_ B_ e_ h1 h2 => shape_calls hC hD (szN n + 1) n A_ B_ c_ e_ W (Nat.lt_succ_self _) h1 h2
theorem RewriteKeeps_node (n : Nd) (x y z r k : Int) (A : Option Addr) (c : Nat) (w : World) (hK : KidsC w A c n.f5) (hL0 : Aside0 (LaidW w)) :
  Calls Tryz.prog 5 #[nodeV n A c, .agg (edA x y z), .int .i64 r, .int .i64 k] w fun e w' => e = .returned (.bool true) ∧ Below w.heap.size w w' := by
 have HL : Aside0 (∀ W, Below w.heap.size w W → Calls Tryz.prog 10 #[] W fun e w' => e = .returned (.bool true) ∧ Below W.heap.size W w') := ⟨fun W hW => lives_calls W (LaidAt hL0 hW)⟩
 by_cases hd : depthI n = 0
 ·exact keeps_deep n x y z r k 0 0 A c w ⟨deep_yes hd hK⟩ HL
 have HM : ∀ W A_ c_, Below w.heap.size w W → KidsC W A_ c_ n.f5 → Calls Tryz.prog 17 #[nodeV n A_ c_, .agg (edA x y z)] W (NodeIntOut (moveN x y z n) (moveE x y z n) W) := fun W A_ c_ hW h => move_calls x y z n A_ c_ W h (LaidAt hL0 hW)
 have HS : ∀ W A_ c_, Below w.heap.size w W → KidsC W A_ c_ n.f5 → Calls Tryz.prog 12 #[nodeV n A_ c_, .int .i64 r, .int .i64 k] W (NodeIntOut (shiftN r k n) (shiftE r k n) W) := fun W A_ c_ hW h => shift_calls r k n A_ c_ W h (LaidAt hL0 hW)
 have hD : ∀ W, Below w.heap.size w W → Calls Tryz.prog 9 #[nodeV n A c] W fun e w' => e = .returned (.bool false) ∧ Below W.heap.size W w' := deep_no hd hK
 by_cases h1 : moveE x y z n = 0
 ·have e1 : moveN x y z n = moveS x y z n := by
   unfold moveE at h1
   unfold moveN
   by_cases hc : checkI n = 0
   ·rw [if_pos hc] at h1 ⊢
    by_cases he : edB x y z = true
    ·rw [if_pos he]
    ·rw [if_neg he] at h1; cases h1
   ·rw [if_neg hc] at h1; exact absurd h1 hc
  rw [h1, e1] at HM
  by_cases h2 : shiftE r k n = 0
  ·have e2 : shiftN r k n = slideS r k n := by
    unfold shiftE at h2
    unfold shiftN
    by_cases hc : checkI n = 0
    ·rw [if_pos hc] at h2 ⊢
     by_cases hf : farB r k = true
     ·rw [if_pos hf] at h2; cases h2
     ·rw [if_neg hf]
    ·rw [if_neg hc] at h2; exact absurd h2 hc
   rw [h2, e2] at HS
   exact keeps_go0 n (moveS x y z n) (slideS r k n) x y z r k 0 0 A c w ⟨hK⟩ ⟨hD⟩ HL ⟨HM⟩ ⟨HS⟩ ⟨shape_of (way1_fix x y z) (way2_fix x y z) n⟩ ⟨shape_of (slid1_fix r k) (slid2_fix r k) n⟩
  ·exact keeps_go1 n (moveS x y z n) (shiftN r k n) x y z r k 0 _ h2 A c w ⟨hK⟩ ⟨hD⟩ HL ⟨HM⟩ ⟨HS⟩ ⟨shape_of (way1_fix x y z) (way2_fix x y z) n⟩
 ·by_cases h2 : shiftE r k n = 0
  ·have e2 : shiftN r k n = slideS r k n := by
    unfold shiftE at h2
    unfold shiftN
    by_cases hc : checkI n = 0
    ·rw [if_pos hc] at h2 ⊢
     by_cases hf : farB r k = true
     ·rw [if_pos hf] at h2; cases h2
     ·rw [if_neg hf]
    ·rw [if_neg hc] at h2; exact absurd h2 hc
   rw [h2, e2] at HS
   exact keeps_go2 n (moveN x y z n) (slideS r k n) x y z r k _ 0 h1 A c w ⟨hK⟩ ⟨hD⟩ HL ⟨HM⟩ ⟨HS⟩ ⟨shape_of (slid1_fix r k) (slid2_fix r k) n⟩
  ·exact keeps_go3 n (moveN x y z n) (shiftN r k n) x y z r k _ _ h1 h2 A c w ⟨hK⟩ ⟨hD⟩ HL ⟨HM⟩ ⟨HS⟩
end Go.Proofs.YthnldbclbfpojaaGreatDoor.Pr
end
section
namespace Go.Proofs.YthnldbclbfpojaaGreatDoor.Pr
open Go.RowKit Go.Proofs.YthnldbclbfpojaaGreatDoorW.PrintWords Go.Proofs.YthnldbclbfpojaaGreatDoorW.PrintMore
theorem RewriteKeeps_walk (n : Nd) (A : Option Addr) (c : Nat) (x y z : Int) (r k : Int) (w : World) (hK : KidsC w A c n.f5) (w1 : (Lit.int .i64 r).wf = true) (w2 : (Lit.int .i64 k).wf = true) (hL0 : Aside0 (LaidW w)) :
  Calls Tryz.prog 5 #[nodeV n A c, .agg (edA x y z), .int .i64 r, .int .i64 k] w fun e w' => e = .returned (.bool true) ∧ Below w.heap.size w w' :=
 RewriteKeeps_node n x y z r k A c w hK hL0
end Go.Proofs.YthnldbclbfpojaaGreatDoor.Pr
end
