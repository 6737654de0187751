/-
  Lemmas for the law FAllFTable.
-/
import Derived.Test.YtopdjokncbpghaaGreatDoorSFAllFTable20
import Derived.Test.YtopdjokncbpghaaGreatDoorSFAllFTable5
import Derived.Test.YtopdjokncbpghaaGreatDoorSFAllFTable35
import Derived.Test.YtopdjokncbpghaaGreatDoorSFAllFTable22
import Derived.Test.YtopdjokncbpghaaGreatDoorSFAllFTable36
import Derived.Test.YtopdjokncbpghaaGreatDoorSFAllFTable17
set_option maxHeartbeats 8000000
set_option maxRecDepth 100000
set_option linter.unusedVariables false
set_option linter.unusedSimpArgs false
section
namespace Go.Proofs.YtopdjokncbpghaaGreatDoor.Pr
open Go.RowKit Go.Proofs.YtopdjokncbpghaaGreatDoorW.PrintWords Go.Proofs.YtopdjokncbpghaaGreatDoorW.PrintLast Go.Proofs.YtopdjokncbpghaaGreatDoorW.PrintMore
attribute [local go_sem high] eqA37 eqA41
def treeRight.T8 : Bool × List (List Nat × List Nat) := (true, [([], []), ([0], [0]), ([], []), ([2], [2]), ([3], [3]), ([0, 1], []), ([5, 1, 4, 0, 1], [1, 5]), ([4, 6, 0, 1, 2, 3, 4, 5, 6], [4])])
def treeRight.B8 : List Nat := [0, 1, 0, 4, 12, 3, 63, 127]
theorem treeRight.tab8 : rtab .any (opsOf Tryz.f54 8) = treeRight.T8 := by kernel_rfl
theorem treeRight.bits8 : waitsOk treeRight.T8.2 treeRight.B8 = true := by kernel_rfl
def treeRight.T10 : Bool × List (List Nat × List Nat) := (true, [([], []), ([0], [0]), ([], []), ([2], [2]), ([0, 1], []), ([4, 1, 0, 1], [1, 4]), ([0, 1, 2, 3, 4, 5], []), ([6, 3, 5, 0, 1, 2, 3, 4, 5], [3, 6])])
def treeRight.B10 : List Nat := [0, 1, 0, 4, 3, 19, 63, 127]
theorem treeRight.tab10 : rtab .any (opsOf Tryz.f54 10) = treeRight.T10 := by kernel_rfl
theorem treeRight.bits10 : waitsOk treeRight.T10.2 treeRight.B10 = true := by kernel_rfl
def treeRight.T15 : Bool × List (List Nat × List Nat) := (true, [([], []), ([0], [0]), ([], []), ([2], [2]), ([3], [3]), ([4], [4]), ([0, 1], []), ([6, 1, 4, 0, 1], [1, 6]), ([7, 0, 1, 6, 7], []), ([5, 8, 0, 1, 2, 3, 4, 5, 6, 7, 8], [5])])
def treeRight.B15 : List Nat := [0, 1, 0, 4, 12, 28, 3, 95, 223, 511]
theorem treeRight.tab15 : rtab .any (opsOf Tryz.f54 15) = treeRight.T15 := by kernel_rfl
theorem treeRight.bits15 : waitsOk treeRight.T15.2 treeRight.B15 = true := by kernel_rfl
def treeRight.T17 : Bool × List (List Nat × List Nat) := (true, [([], []), ([0], [0]), ([], []), ([2], [2]), ([3], [3]), ([], []), ([5], [5]), ([6], [6]), ([0, 1], []), ([8, 1, 7, 0, 1], [1, 8]), ([4, 9, 0, 1, 2, 3, 4, 8, 9], [4]), ([7, 10, 0, 1, 2, 3, 4, 5, 6, 7, 8, 9, 10], [7])])
def treeRight.B17 : List Nat := [0, 1, 0, 4, 12, 0, 32, 96, 3, 483, 1023, 2047]
theorem treeRight.tab17 : rtab .any (opsOf Tryz.f54 17) = treeRight.T17 := by kernel_rfl
theorem treeRight.bits17 : waitsOk treeRight.T17.2 treeRight.B17 = true := by kernel_rfl
theorem treeRight_k1 (kL : Nat) (A : Option Addr) (c : Nat) (w : World) (hL0 : Aside0 (LaidW w)) (r z : Bool) (s : ByteArray) (l : List Nd) (v0 v1 : Int) (v2 : ByteArray) (v3 : Bool) (v4 c0 c1 : Int) (c2 c3 : Bool) (t0 t1 : Int) (t2 t3 : Bool) (vn : Bool) (L : Nat) (hlc : L ≤ c) (hmax : L ≤ 9223372036854775807) (ln : Int) (nm p2 p3 : Bool) (HV : Aside0 (value_Check.f v0 v1 v2 v3 v4 = some (if vn = true then 0 else 2))) (HL4 : Aside0 (tree_line.f kL s = some ln)) (HN4 : Aside0 (tree_name.f s = some nm)) (HP2 : Aside0 (tree_cell.f c0 c1 c2 c3 = some p2)) (HP3 : Aside0 (tree_cell.f t0 t1 t2 t3 = some p3)) (HT : Aside0 (∀ W, Below w.heap.size w W → Calls Tryz.prog 79 #[.slice A L c, .func (.func 80) #[] #[]] W fun e w' => e = .returned (.bool (!z)) ∧ Below W.heap.size W w')) (HR : Aside0 (((plainB ⟨1, ⟨v0, v1, v2, v3, v4⟩, ⟨⟨c0, c1⟩, c2, c3⟩, ⟨⟨t0, t1⟩, t2, t3⟩, s, l⟩ && (decide (L = 0) && (vn && ((v0 != 0) && decide (0 ≤ v1))))) && z) = r)) :
  Calls Tryz.prog 54 #[.agg #[.int .i64 1, .int .i64 v0, .int .i64 v1, .string v2, .bool v3, .int .i64 v4, .int .i64 c0, .int .i64 c1, .bool c2, .bool c3, .int .i64 t0, .int .i64 t1, .bool t2, .bool t3, .string s, .slice A L c]] w fun e w' => e = .returned (.bool r) ∧ Below w.heap.size w w' := by
 cases vn <;> simp only [if_true, if_false, Bool.false_eq_true] at HV
 all_goals
  go_enter Tryz.func54, Tryz.ntmps54
  go_wp2_with (first
   | (go_at_call 75; (with_reducible refine (value_Check.calls _ _ _ _ _ _ _ HV.out).mono ?_); rintro e w1 ⟨rfl, hb⟩; have HB1 := Aside0.mk (below_step (bel2 w _ _) hb); have hq1 := Aside0.mk (blk_below (blk_alloc (newBlk w (.cells #[.int .i64 1, .int .i64 v0, .int .i64 v1, .string v2, .bool v3, .int .i64 v4, .int .i64 c0, .int .i64 c1, .bool c2, .bool c3, .int .i64 t0, .int .i64 t1, .bool t2, .bool t3, .string s, .slice A L c] 44)) (.cells #[.int .i64 1, .int .i64 v0, .int .i64 v1, .string v2, .bool v3, .int .i64 v4, .int .i64 0, .int .i64 0, .bool false, .bool false, .int .i64 0, .int .i64 0, .bool false, .bool false, .string ⟨#[]⟩, .slice none 0 0] 44)) hb); have hq2 := Aside0.mk (blk_below (newBlk2 w (.cells #[.int .i64 1, .int .i64 v0, .int .i64 v1, .string v2, .bool v3, .int .i64 v4, .int .i64 c0, .int .i64 c1, .bool c2, .bool c3, .int .i64 t0, .int .i64 t1, .bool t2, .bool t3, .string s, .slice A L c] 44) (.cells #[.int .i64 1, .int .i64 v0, .int .i64 v1, .string v2, .bool v3, .int .i64 v4, .int .i64 0, .int .i64 0, .bool false, .bool false, .int .i64 0, .int .i64 0, .bool false, .bool false, .string ⟨#[]⟩, .slice none 0 0] 44)) hb); have hc1 := fun i => blk_cell hq1.out i; have hc2 := fun i => blk_cell hq2.out i; clear hb)
   | (go_at_call 79; (with_reducible refine (HT.out _ HB1.out).mono ?_); rintro e w9 ⟨rfl, hb⟩; have HB9 := Aside0.mk hb; clear hb))
  all_goals (go_ret; exact ⟨ret_b (by rw [← HR.out]; first | rfl | (simp_all [plainB]; done) | (simp_all [plainB]; omega) | (rw [Bool.eq_iff_iff]; simp_all [plainB]; omega) | (simp_all [plainB]; intros; subst_vars; simp_all; done) | (simp_all [plainB]; intros; exfalso; omega)), by first | exact below_step HB1.out HB9.out | exact HB1.out⟩)
theorem treeRight_k2 (kL : Nat) (A : Option Addr) (c : Nat) (w : World) (hL0 : Aside0 (LaidW w)) (r z : Bool) (s : ByteArray) (l : List Nd) (v0 v1 : Int) (v2 : ByteArray) (v3 : Bool) (v4 c0 c1 : Int) (c2 c3 : Bool) (t0 t1 : Int) (t2 t3 : Bool) (vn : Bool) (L : Nat) (hlc : L ≤ c) (hmax : L ≤ 9223372036854775807) (ln : Int) (nm p2 p3 : Bool) (HV : Aside0 (value_Check.f v0 v1 v2 v3 v4 = some (if vn = true then 0 else 2))) (HL4 : Aside0 (tree_line.f kL s = some ln)) (HN4 : Aside0 (tree_name.f s = some nm)) (HP2 : Aside0 (tree_cell.f c0 c1 c2 c3 = some p2)) (HP3 : Aside0 (tree_cell.f t0 t1 t2 t3 = some p3)) (HT : Aside0 (∀ W, Below w.heap.size w W → Calls Tryz.prog 79 #[.slice A L c, .func (.func 80) #[] #[]] W fun e w' => e = .returned (.bool (!z)) ∧ Below W.heap.size W w')) (HR : Aside0 (((plainB ⟨2, ⟨v0, v1, v2, v3, v4⟩, ⟨⟨c0, c1⟩, c2, c3⟩, ⟨⟨t0, t1⟩, t2, t3⟩, s, l⟩ && (decide (L = 0) && p2)) && z) = r)) :
  Calls Tryz.prog 54 #[.agg #[.int .i64 2, .int .i64 v0, .int .i64 v1, .string v2, .bool v3, .int .i64 v4, .int .i64 c0, .int .i64 c1, .bool c2, .bool c3, .int .i64 t0, .int .i64 t1, .bool t2, .bool t3, .string s, .slice A L c]] w fun e w' => e = .returned (.bool r) ∧ Below w.heap.size w w' := by
 go_enter Tryz.func54, Tryz.ntmps54
 go_wp2
 refine start_ (n := 8) (S := (fun w' => w'.heap[w.heap.size]? = some (.cells #[.int .i64 2, .int .i64 v0, .int .i64 v1, .string v2, .bool v3, .int .i64 v4, .int .i64 c0, .int .i64 c1, .bool c2, .bool c3, .int .i64 t0, .int .i64 t1, .bool t2, .bool t3, .string s, .slice A L c] 44 (0, 0)) ∧ w'.heap[w.heap.size + 1]? = some (.cells #[.int .i64 2, .int .i64 0, .int .i64 0, .string ⟨#[]⟩, .bool false, .int .i64 0, .int .i64 0, .int .i64 0, .bool false, .bool false, .int .i64 0, .int .i64 0, .bool false, .bool false, .string ⟨#[]⟩, .slice none 0 0] 44 (0, 0)))) (ds := [6]) (Array.replicate 8 false) (by kernel_rfl) rfl rfl ⟨blk_drew (blk_alloc (newBlk w _) _), blk_drew (newBlk2 w _ _)⟩ (fun hHeld => ?_)
 refine with_tabW treeRight.tab8 treeRight.bits8 (fun HT_ HW_ => ?_)
 refine pz 0 35 HT_ ?_; refine pz 2 37 HT_ ?_
 refine tz 1 36 HT_ HW_ (hr := (by rintro w' s0; have q := fun i => blk_cell s0.1 i; go_simp; with_reducible rfl)) (hS := hHeld) (h := ?_)
 refine pz 5 40 HT_ ?_
 refine tz 3 38 HT_ HW_ (hr := (by rintro w' s0; have q := fun i => blk_cell s0.1 i; go_simp; with_reducible rfl)) (hS := hHeld) (h := ?_)
 refine oneI 4 (some 39) HT_ rfl rfl (by kernel_rfl) (by decide) (fun K hK => ?_)
 refine goes_ Tryz.func76 (by kernel_rfl) rfl #[.agg #[.int .i64 c0, .int .i64 c1, .bool c2, .bool c3]] (by (try simp only [List.map_toArray, List.map_cons, List.map_nil]); first | done | rfl) rfl rfl (by first | rfl | ((try simp only [List.map_toArray, List.map_cons, List.map_nil]); first | done | rfl)) ?_
 with_reducible refine (tree_cell.calls _ _ _ _ _ _ HP2.out (LaidAt hL0 (below_drew1 (bel2 w _ _)))).mono ?_
 rintro e w1 ⟨rfl, hb1⟩
 refine ⟨_, rfl, ?_⟩
 have HT1 := Aside0.mk (And.intro (blk_below hHeld.1 hb1) (blk_below hHeld.2 hb1))
 have HB1 := Aside0.mk (below_step (below_drew1 (bel2 w (.cells #[.int .i64 2, .int .i64 v0, .int .i64 v1, .string v2, .bool v3, .int .i64 v4, .int .i64 c0, .int .i64 c1, .bool c2, .bool c3, .int .i64 t0, .int .i64 t1, .bool t2, .bool t3, .string s, .slice A L c] 44) (.cells #[.int .i64 2, .int .i64 0, .int .i64 0, .string ⟨#[]⟩, .bool false, .int .i64 0, .int .i64 0, .int .i64 0, .bool false, .bool false, .int .i64 0, .int .i64 0, .bool false, .bool false, .string ⟨#[]⟩, .slice none 0 0] 44))) hb1)
 refine hK.out _ _ ⟨blk_below hHeld.1 hb1, blk_below hHeld.2 hb1⟩ (fun hHeld => ?_)
 clear hK K
 refine nz 39 ?_
 refine lastI 6 none HT_ rfl rfl (by kernel_rfl) (by decide) (fun K hK => ?_)
 have hs := fun i => blk_cell HT1.out.2 i
 have hf := fun i => blk_frozen HT1.out.2 i
 have hc1 := fun i => blk_cell HT1.out.1 i
 refine skip_ (w1 := ?_) (by rfl) rfl ?_ ?_
 rotate_left
 ·go_simp
  rfl
 refine hK.out _ _ ?_
 clear hK K
 -- norm_
 refine pz 7 5 HT_ ?_
 refine done_ (done_of HT_.out (by kernel_rfl)) ?_
 go_wp2_with (go_at_call 79; (with_reducible refine (HT.out _ (below_set (below_set (below_set (below_set HB1.out (Nat.le_succ _)) (Nat.le_succ _)) (Nat.le_succ _)) (Nat.le_succ _))).mono ?_); rintro e w9 ⟨rfl, hb⟩; have HB9 := Aside0.mk hb; clear hb)
 all_goals (go_ret; exact ⟨ret_b (by rw [← HR.out]; first | rfl | (simp_all [plainB]; done) | (simp_all [plainB]; omega) | (rw [Bool.eq_iff_iff]; simp_all [plainB]; omega) | (simp_all [plainB]; intros; subst_vars; simp_all; done) | (simp_all [plainB]; intros; exfalso; omega)), by first | exact below_step (below_set (below_set (below_set (below_set HB1.out (Nat.le_succ _)) (Nat.le_succ _)) (Nat.le_succ _)) (Nat.le_succ _)) HB9.out | exact (below_set (below_set (below_set (below_set HB1.out (Nat.le_succ _)) (Nat.le_succ _)) (Nat.le_succ _)) (Nat.le_succ _))⟩)
theorem treeRight_k3 (kL : Nat) (A : Option Addr) (c : Nat) (w : World) (hL0 : Aside0 (LaidW w)) (r z : Bool) (s : ByteArray) (l : List Nd) (v0 v1 : Int) (v2 : ByteArray) (v3 : Bool) (v4 c0 c1 : Int) (c2 c3 : Bool) (t0 t1 : Int) (t2 t3 : Bool) (vn : Bool) (L : Nat) (hlc : L ≤ c) (hmax : L ≤ 9223372036854775807) (ln : Int) (nm p2 p3 : Bool) (HV : Aside0 (value_Check.f v0 v1 v2 v3 v4 = some (if vn = true then 0 else 2))) (HL4 : Aside0 (tree_line.f kL s = some ln)) (HN4 : Aside0 (tree_name.f s = some nm)) (HP2 : Aside0 (tree_cell.f c0 c1 c2 c3 = some p2)) (HP3 : Aside0 (tree_cell.f t0 t1 t2 t3 = some p3)) (HT : Aside0 (∀ W, Below w.heap.size w W → Calls Tryz.prog 79 #[.slice A L c, .func (.func 80) #[] #[]] W fun e w' => e = .returned (.bool (!z)) ∧ Below W.heap.size W w')) (HR : Aside0 (((plainB ⟨3, ⟨v0, v1, v2, v3, v4⟩, ⟨⟨c0, c1⟩, c2, c3⟩, ⟨⟨t0, t1⟩, t2, t3⟩, s, l⟩ && (decide (L = 0) && (p2 && p3))) && z) = r)) :
  Calls Tryz.prog 54 #[.agg #[.int .i64 3, .int .i64 v0, .int .i64 v1, .string v2, .bool v3, .int .i64 v4, .int .i64 c0, .int .i64 c1, .bool c2, .bool c3, .int .i64 t0, .int .i64 t1, .bool t2, .bool t3, .string s, .slice A L c]] w fun e w' => e = .returned (.bool r) ∧ Below w.heap.size w w' := by
 have hne : w.heap.size ≠ w.heap.size + 1 := by omega
 go_enter Tryz.func54, Tryz.ntmps54
 go_wp2
 refine start_ (n := 8) (S := (fun w' => w'.heap[w.heap.size]? = some (.cells #[.int .i64 3, .int .i64 v0, .int .i64 v1, .string v2, .bool v3, .int .i64 v4, .int .i64 c0, .int .i64 c1, .bool c2, .bool c3, .int .i64 t0, .int .i64 t1, .bool t2, .bool t3, .string s, .slice A L c] 44 (0, 0)))) (ds := [7]) (Array.replicate 8 false) (by kernel_rfl) rfl rfl (blk_drew (blk_alloc (newBlk w _) _)) (fun hHeld => ?_)
 refine with_tabW treeRight.tab10 treeRight.bits10 (fun HT_ HW_ => ?_)
 refine pz 0 43 HT_ ?_; refine pz 2 45 HT_ ?_
 refine tz 1 44 HT_ HW_ (hr := (by rintro w' s0; have q := fun i => blk_cell s0 i; go_simp; with_reducible rfl)) (hS := hHeld) (h := ?_)
 refine pz 4 47 HT_ ?_
 refine tz 3 46 HT_ HW_ (hr := (by rintro w' s0; have q := fun i => blk_cell s0 i; go_simp; with_reducible rfl)) (hS := hHeld) (h := ?_)
 refine oneI 5 none HT_ rfl rfl (by kernel_rfl) (by decide) (fun K hK => ?_)
 have hs := fun i => blk_cell (blk_drew (newBlk2 w (.cells #[.int .i64 3, .int .i64 v0, .int .i64 v1, .string v2, .bool v3, .int .i64 v4, .int .i64 c0, .int .i64 c1, .bool c2, .bool c3, .int .i64 t0, .int .i64 t1, .bool t2, .bool t3, .string s, .slice A L c] 44) (.cells #[.int .i64 3, .int .i64 0, .int .i64 0, .string ⟨#[]⟩, .bool false, .int .i64 0, .int .i64 0, .int .i64 0, .bool false, .bool false, .int .i64 0, .int .i64 0, .bool false, .bool false, .string ⟨#[]⟩, .slice none 0 0] 44))) i
 have hf := fun i => blk_frozen (blk_drew (newBlk2 w (.cells #[.int .i64 3, .int .i64 v0, .int .i64 v1, .string v2, .bool v3, .int .i64 v4, .int .i64 c0, .int .i64 c1, .bool c2, .bool c3, .int .i64 t0, .int .i64 t1, .bool t2, .bool t3, .string s, .slice A L c] 44) (.cells #[.int .i64 3, .int .i64 0, .int .i64 0, .string ⟨#[]⟩, .bool false, .int .i64 0, .int .i64 0, .int .i64 0, .bool false, .bool false, .int .i64 0, .int .i64 0, .bool false, .bool false, .string ⟨#[]⟩, .slice none 0 0] 44))) i
 refine skip_ (w1 := ?_) (by rfl) rfl ?_ ?_
 rotate_left
 ·go_simp
  rfl
 refine hK.out _ _ (blk_drew (blk_alloc (newBlk w _) _)) (fun hHeld => ?_)
 clear hK K
 -- norm_
 refine pz 6 48 HT_ ?_
 refine lastI 7 none HT_ rfl rfl (by kernel_rfl) (by decide) (fun K hK => ?_)
 refine skip_ (w1 := ?_) (by rfl) rfl ?_ ?_
 rotate_left
 ·go_simp
  rfl
 refine hK.out _ _ ?_
 clear hK K
 -- norm_
 refine done_ (done_of HT_.out (by kernel_rfl)) ?_
 have hq1 := Aside0.mk (blk_drew (blk_alloc (newBlk w (.cells #[.int .i64 3, .int .i64 v0, .int .i64 v1, .string v2, .bool v3, .int .i64 v4, .int .i64 c0, .int .i64 c1, .bool c2, .bool c3, .int .i64 t0, .int .i64 t1, .bool t2, .bool t3, .string s, .slice A L c] 44)) (.cells #[.int .i64 3, .int .i64 0, .int .i64 0, .string ⟨#[]⟩, .bool false, .int .i64 0, .int .i64 c0, .int .i64 c1, .bool c2, .bool c3, .int .i64 t0, .int .i64 t1, .bool t2, .bool t3, .string ⟨#[]⟩, .slice none 0 0] 44)))
 have hq2 := Aside0.mk (blk_drew (newBlk2 w (.cells #[.int .i64 3, .int .i64 v0, .int .i64 v1, .string v2, .bool v3, .int .i64 v4, .int .i64 c0, .int .i64 c1, .bool c2, .bool c3, .int .i64 t0, .int .i64 t1, .bool t2, .bool t3, .string s, .slice A L c] 44) (.cells #[.int .i64 3, .int .i64 0, .int .i64 0, .string ⟨#[]⟩, .bool false, .int .i64 0, .int .i64 c0, .int .i64 c1, .bool c2, .bool c3, .int .i64 t0, .int .i64 t1, .bool t2, .bool t3, .string ⟨#[]⟩, .slice none 0 0] 44)))
 have HBq := Aside0.mk (below_drew1 (bel2 w (.cells #[.int .i64 3, .int .i64 v0, .int .i64 v1, .string v2, .bool v3, .int .i64 v4, .int .i64 c0, .int .i64 c1, .bool c2, .bool c3, .int .i64 t0, .int .i64 t1, .bool t2, .bool t3, .string s, .slice A L c] 44) (.cells #[.int .i64 3, .int .i64 0, .int .i64 0, .string ⟨#[]⟩, .bool false, .int .i64 0, .int .i64 c0, .int .i64 c1, .bool c2, .bool c3, .int .i64 t0, .int .i64 t1, .bool t2, .bool t3, .string ⟨#[]⟩, .slice none 0 0] 44)))
 go_wp2_with (first
  | (go_at_call 76; (with_reducible refine (tree_cell.calls _ _ _ _ _ _ HP2.out (LaidAt hL0 HBq.out)).mono ?_); clear HP2; rintro e w1 ⟨rfl, hb⟩; have HB1 := Aside0.mk (below_step HBq.out hb); have hr1 := Aside0.mk (blk_below hq1.out hb); have hr2 := Aside0.mk (blk_below hq2.out hb); have hc1 := fun i => blk_cell hr1.out i; have hc2 := fun i => blk_cell hr2.out i; clear hb)
  | (go_at_call 76; (with_reducible refine (tree_cell.calls _ _ _ _ _ _ HP3.out (LaidAt hL0 HB1.out)).mono ?_); clear HP3 hc1 hc2; rintro e w2 ⟨rfl, hb⟩; have HB2 := Aside0.mk (below_step HB1.out hb); have hs1 := Aside0.mk (blk_below hr1.out hb); have hs2 := Aside0.mk (blk_below hr2.out hb); have hc1 := fun i => blk_cell hs1.out i; have hc2 := fun i => blk_cell hs2.out i; clear hb)
  | (go_at_call 79; (with_reducible refine (HT.out _ (by first | exact HB2.out | exact HB1.out)).mono ?_); rintro e w9 ⟨rfl, hb⟩; have HB9 := Aside0.mk hb; clear hb))
 all_goals (go_ret; exact ⟨ret_b (by rw [← HR.out]; first | rfl | (simp_all [plainB]; done) | (simp_all [plainB]; omega) | (rw [Bool.eq_iff_iff]; simp_all [plainB]; omega) | (simp_all [plainB]; intros; subst_vars; simp_all; done) | (simp_all [plainB]; intros; exfalso; omega)), by first | exact below_step (by first | exact HB2.out | exact HB1.out) HB9.out | exact (by first | exact HB2.out | exact HB1.out)⟩)
theorem treeRight_k4 (kL : Nat) (A : Option Addr) (c : Nat) (w : World) (hL0 : Aside0 (LaidW w)) (r z : Bool) (s : ByteArray) (l : List Nd) (v0 v1 : Int) (v2 : ByteArray) (v3 : Bool) (v4 c0 c1 : Int) (c2 c3 : Bool) (t0 t1 : Int) (t2 t3 : Bool) (vn : Bool) (L : Nat) (hlc : L ≤ c) (hmax : L ≤ 9223372036854775807) (ln : Int) (nm p2 p3 : Bool) (HV : Aside0 (value_Check.f v0 v1 v2 v3 v4 = some (if vn = true then 0 else 2))) (HL4 : Aside0 (tree_line.f kL s = some ln)) (HN4 : Aside0 (tree_name.f s = some nm)) (HP2 : Aside0 (tree_cell.f c0 c1 c2 c3 = some p2)) (HP3 : Aside0 (tree_cell.f t0 t1 t2 t3 = some p3)) (HT : Aside0 (∀ W, Below w.heap.size w W → Calls Tryz.prog 79 #[.slice A L c, .func (.func 80) #[] #[]] W fun e w' => e = .returned (.bool (!z)) ∧ Below W.heap.size W w')) (HR : Aside0 (((plainB ⟨4, ⟨v0, v1, v2, v3, v4⟩, ⟨⟨c0, c1⟩, c2, c3⟩, ⟨⟨t0, t1⟩, t2, t3⟩, s, l⟩ && decide (L = 1)) && z) = r)) :
  Calls Tryz.prog 54 #[.agg #[.int .i64 4, .int .i64 v0, .int .i64 v1, .string v2, .bool v3, .int .i64 v4, .int .i64 c0, .int .i64 c1, .bool c2, .bool c3, .int .i64 t0, .int .i64 t1, .bool t2, .bool t3, .string s, .slice A L c]] w fun e w' => e = .returned (.bool r) ∧ Below w.heap.size w w' := by
 go_enter Tryz.func54, Tryz.ntmps54
 go_wp2_with (go_at_call 79; (with_reducible refine (HT.out _ (bel2 w _ _)).mono ?_); rintro e w9 ⟨rfl, hb⟩; have HB9 := Aside0.mk hb; clear hb)
 all_goals (go_ret; exact ⟨ret_b (by rw [← HR.out]; first | rfl | (simp_all [plainB]; done) | (simp_all [plainB]; omega) | (rw [Bool.eq_iff_iff]; simp_all [plainB]; omega) | (simp_all [plainB]; intros; subst_vars; simp_all; done) | (simp_all [plainB]; intros; exfalso; omega)), by first | exact below_step (bel2 w _ _) HB9.out | exact (bel2 w _ _)⟩)
theorem treeRight_k5 (kL : Nat) (A : Option Addr) (c : Nat) (w : World) (hL0 : Aside0 (LaidW w)) (r z : Bool) (s : ByteArray) (l : List Nd) (v0 v1 : Int) (v2 : ByteArray) (v3 : Bool) (v4 c0 c1 : Int) (c2 c3 : Bool) (t0 t1 : Int) (t2 t3 : Bool) (vn : Bool) (L : Nat) (hlc : L ≤ c) (hmax : L ≤ 9223372036854775807) (ln : Int) (nm p2 p3 : Bool) (HV : Aside0 (value_Check.f v0 v1 v2 v3 v4 = some (if vn = true then 0 else 2))) (HL4 : Aside0 (tree_line.f kL s = some ln)) (HN4 : Aside0 (tree_name.f s = some nm)) (HP2 : Aside0 (tree_cell.f c0 c1 c2 c3 = some p2)) (HP3 : Aside0 (tree_cell.f t0 t1 t2 t3 = some p3)) (HT : Aside0 (∀ W, Below w.heap.size w W → Calls Tryz.prog 79 #[.slice A L c, .func (.func 80) #[] #[]] W fun e w' => e = .returned (.bool (!z)) ∧ Below W.heap.size W w')) (HR : Aside0 (((plainB ⟨5, ⟨v0, v1, v2, v3, v4⟩, ⟨⟨c0, c1⟩, c2, c3⟩, ⟨⟨t0, t1⟩, t2, t3⟩, s, l⟩ && (decide (L = 2) && decide (0 ≤ ln))) && z) = r)) :
  Calls Tryz.prog 54 #[.agg #[.int .i64 5, .int .i64 v0, .int .i64 v1, .string v2, .bool v3, .int .i64 v4, .int .i64 c0, .int .i64 c1, .bool c2, .bool c3, .int .i64 t0, .int .i64 t1, .bool t2, .bool t3, .string s, .slice A L c]] w fun e w' => e = .returned (.bool r) ∧ Below w.heap.size w w' := by
 go_enter Tryz.func54, Tryz.ntmps54
 go_wp2
 refine start_ (n := 10) (S := (fun w' => w'.heap[w.heap.size]? = some (.cells #[.int .i64 5, .int .i64 v0, .int .i64 v1, .string v2, .bool v3, .int .i64 v4, .int .i64 c0, .int .i64 c1, .bool c2, .bool c3, .int .i64 t0, .int .i64 t1, .bool t2, .bool t3, .string s, .slice A L c] 44 (0, 0)) ∧ w'.heap[w.heap.size + 1]? = some (.cells #[.int .i64 5, .int .i64 0, .int .i64 0, .string ⟨#[]⟩, .bool false, .int .i64 0, .int .i64 0, .int .i64 0, .bool false, .bool false, .int .i64 0, .int .i64 0, .bool false, .bool false, .string ⟨#[]⟩, .slice none 0 0] 44 (0, 0)))) (ds := [7]) (Array.replicate 10 false) (by kernel_rfl) rfl rfl ⟨blk_drew (blk_alloc (newBlk w _) _), blk_drew (newBlk2 w _ _)⟩ (fun hHeld => ?_)
 refine with_tabW treeRight.tab15 treeRight.bits15 (fun HT_ HW_ => ?_)
 refine pz 0 61 HT_ ?_; refine pz 2 63 HT_ ?_
 refine tz 1 62 HT_ HW_ (hr := (by rintro w' s0; have q := fun i => blk_cell s0.1 i; go_simp; with_reducible rfl)) (hS := hHeld) (h := ?_)
 refine pz 6 67 HT_ ?_
 refine tz 3 64 HT_ HW_ (hr := (by rintro w' s0; have q := fun i => blk_cell s0.1 i; go_simp; with_reducible rfl)) (hS := hHeld) (h := ?_)
 refine oneI 4 (some 65) HT_ rfl rfl (by kernel_rfl) (by decide) (fun K hK => ?_)
 refine goes_ Tryz.func77 (by kernel_rfl) rfl #[.string s] (by (try simp only [List.map_toArray, List.map_cons, List.map_nil]); first | done | rfl) rfl rfl (by first | rfl | ((try simp only [List.map_toArray, List.map_cons, List.map_nil]); first | done | rfl)) ?_
 with_reducible refine (tree_line.calls _ _ _ _ HL4.out).mono ?_
 rintro e w1 ⟨rfl, nd, rfl⟩
 refine ⟨_, rfl, ?_⟩
 have HT1 := Aside0.mk (And.intro (blk_drewN hHeld.1 nd) (blk_drewN hHeld.2 nd))
 refine hK.out _ _ ⟨blk_drewN hHeld.1 _, blk_drewN hHeld.2 _⟩ (fun hHeld => ?_)
 clear hK K
 refine nz 65 ?_
 refine pz 5 66 HT_ ?_
 refine lastI 7 none HT_ rfl rfl (by kernel_rfl) (by decide) (fun K hK => ?_)
 have hs := fun i => blk_cell HT1.out.2 i
 have hf := fun i => blk_frozen HT1.out.2 i
 have hc1 := fun i => blk_cell HT1.out.1 i
 refine skip_ (w1 := ?_) (by rfl) rfl ?_ ?_
 rotate_left
 ·go_simp
  rfl
 refine hK.out _ _ ?_
 clear hK K
 -- norm_
 refine pz 8 4 HT_ ?_; refine pz 9 5 HT_ ?_
 refine done_ (done_of HT_.out (by kernel_rfl)) ?_
 go_wp2_with (go_at_call 79; (with_reducible refine (HT.out _ (below_set (pw_below_drewN (bel2 w _ _) _) (Nat.le_succ _))).mono ?_); rintro e w9 ⟨rfl, hb⟩; have HB9 := Aside0.mk hb; clear hb)
 all_goals (go_ret; exact ⟨ret_b (by rw [← HR.out]; first | rfl | (simp_all [plainB]; done) | (simp_all [plainB]; omega) | (rw [Bool.eq_iff_iff]; simp_all [plainB]; omega) | (simp_all [plainB]; intros; subst_vars; simp_all; done) | (simp_all [plainB]; intros; exfalso; omega)), by first | exact below_step (below_set (pw_below_drewN (bel2 w _ _) _) (Nat.le_succ _)) HB9.out | exact (below_set (pw_below_drewN (bel2 w _ _) _) (Nat.le_succ _))⟩)
theorem treeRight_k6 (kL : Nat) (A : Option Addr) (c : Nat) (w : World) (hL0 : Aside0 (LaidW w)) (r z : Bool) (s : ByteArray) (l : List Nd) (v0 v1 : Int) (v2 : ByteArray) (v3 : Bool) (v4 c0 c1 : Int) (c2 c3 : Bool) (t0 t1 : Int) (t2 t3 : Bool) (vn : Bool) (L : Nat) (hlc : L ≤ c) (hmax : L ≤ 9223372036854775807) (ln : Int) (nm p2 p3 : Bool) (HV : Aside0 (value_Check.f v0 v1 v2 v3 v4 = some (if vn = true then 0 else 2))) (HL4 : Aside0 (tree_line.f kL s = some ln)) (HN4 : Aside0 (tree_name.f s = some nm)) (HP2 : Aside0 (tree_cell.f c0 c1 c2 c3 = some p2)) (HP3 : Aside0 (tree_cell.f t0 t1 t2 t3 = some p3)) (HT : Aside0 (∀ W, Below w.heap.size w W → Calls Tryz.prog 79 #[.slice A L c, .func (.func 80) #[] #[]] W fun e w' => e = .returned (.bool (!z)) ∧ Below W.heap.size W w')) (HR : Aside0 (((plainB ⟨6, ⟨v0, v1, v2, v3, v4⟩, ⟨⟨c0, c1⟩, c2, c3⟩, ⟨⟨t0, t1⟩, t2, t3⟩, s, l⟩ && (nm && (s.toList == s.toList))) && z) = r)) :
  Calls Tryz.prog 54 #[.agg #[.int .i64 6, .int .i64 v0, .int .i64 v1, .string v2, .bool v3, .int .i64 v4, .int .i64 c0, .int .i64 c1, .bool c2, .bool c3, .int .i64 t0, .int .i64 t1, .bool t2, .bool t3, .string s, .slice A L c]] w fun e w' => e = .returned (.bool r) ∧ Below w.heap.size w w' := by
 have hne : w.heap.size ≠ w.heap.size + 1 := by omega
 go_enter Tryz.func54, Tryz.ntmps54
 go_wp2
 refine start_ (n := 12) (S := (fun w' => w'.heap[w.heap.size]? = some (.cells #[.int .i64 6, .int .i64 v0, .int .i64 v1, .string v2, .bool v3, .int .i64 v4, .int .i64 c0, .int .i64 c1, .bool c2, .bool c3, .int .i64 t0, .int .i64 t1, .bool t2, .bool t3, .string s, .slice A L c] 44 (0, 0)))) (ds := []) (Array.replicate 12 false) (by kernel_rfl) rfl rfl (blk_drew (blk_alloc (newBlk w _) _)) (fun hHeld => ?_)
 refine with_tabW treeRight.tab17 treeRight.bits17 (fun HT_ HW_ => ?_)
 refine pz 0 70 HT_ ?_; refine pz 2 72 HT_ ?_; refine pz 5 75 HT_ ?_
 refine tz 1 71 HT_ HW_ (hr := (by rintro w' s0; have q := fun i => blk_cell s0 i; go_simp; with_reducible rfl)) (hS := hHeld) (h := ?_)
 refine pz 8 78 HT_ ?_
 refine tz 3 73 HT_ HW_ (hr := (by rintro w' s0; have q := fun i => blk_cell s0 i; go_simp; with_reducible rfl)) (hS := hHeld) (h := ?_)
 refine pz 4 74 HT_ ?_
 refine tz 6 76 HT_ HW_ (hr := (by rintro w' s0; have q := fun i => blk_cell s0 i; go_simp; with_reducible rfl)) (hS := hHeld) (h := ?_)
 refine oneI 7 (some 77) HT_ rfl rfl (by kernel_rfl) (by decide) (fun K hK => ?_)
 refine goes_ Tryz.func78 (by kernel_rfl) rfl #[.string s] (by (try simp only [List.map_toArray, List.map_cons, List.map_nil]); first | done | rfl) rfl rfl (by first | rfl | ((try simp only [List.map_toArray, List.map_cons, List.map_nil]); first | done | rfl)) ?_
 with_reducible refine (tree_name.calls _ _ _ HN4.out).mono ?_
 rintro e w1 ⟨rfl, hb1⟩
 refine ⟨_, rfl, ?_⟩
 have HT1 := Aside0.mk (And.intro (blk_below hHeld hb1) (blk_below (blk_drew (newBlk2 w (.cells #[.int .i64 6, .int .i64 v0, .int .i64 v1, .string v2, .bool v3, .int .i64 v4, .int .i64 c0, .int .i64 c1, .bool c2, .bool c3, .int .i64 t0, .int .i64 t1, .bool t2, .bool t3, .string s, .slice A L c] 44) (.cells #[.int .i64 6, .int .i64 0, .int .i64 0, .string ⟨#[]⟩, .bool false, .int .i64 0, .int .i64 0, .int .i64 0, .bool false, .bool false, .int .i64 0, .int .i64 0, .bool false, .bool false, .string ⟨#[]⟩, .slice none 0 0] 44))) hb1))
 have HB1 := Aside0.mk (below_step (below_drew1 (bel2 w (.cells #[.int .i64 6, .int .i64 v0, .int .i64 v1, .string v2, .bool v3, .int .i64 v4, .int .i64 c0, .int .i64 c1, .bool c2, .bool c3, .int .i64 t0, .int .i64 t1, .bool t2, .bool t3, .string s, .slice A L c] 44) (.cells #[.int .i64 6, .int .i64 0, .int .i64 0, .string ⟨#[]⟩, .bool false, .int .i64 0, .int .i64 0, .int .i64 0, .bool false, .bool false, .int .i64 0, .int .i64 0, .bool false, .bool false, .string ⟨#[]⟩, .slice none 0 0] 44))) hb1)
 refine hK.out _ _ (blk_below hHeld hb1) (fun hHeld => ?_)
 clear hK K
 refine nz 77 ?_
 refine oneI 9 none HT_ rfl rfl (by kernel_rfl) (by decide) (fun K hK => ?_)
 have hs := fun i => blk_cell HT1.out.2 i
 have hf := fun i => blk_frozen HT1.out.2 i
 have hc1 := fun i => blk_cell HT1.out.1 i
 refine skip_ (w1 := ?_) (by rfl) rfl ?_ ?_
 rotate_left
 ·go_simp
  rfl
 refine hK.out _ _ (blk_far (p := ⟨w.heap.size + 1, 14, none⟩) HT1.out.1 hne _) (fun hHeld => ?_)
 clear hK K
 -- norm_
 refine pz 10 4 HT_ ?_; refine pz 11 5 HT_ ?_
 refine done_ (done_of HT_.out (by kernel_rfl)) ?_
 go_wp2_with (go_at_call 79; (with_reducible refine (HT.out _ (below_set HB1.out (Nat.le_succ _))).mono ?_); rintro e w9 ⟨rfl, hb⟩; have HB9 := Aside0.mk hb; clear hb)
 all_goals (go_ret; exact ⟨ret_b (by rw [← HR.out]; first | rfl | (simp_all [plainB]; done) | (simp_all [plainB]; omega) | (rw [Bool.eq_iff_iff]; simp_all [plainB]; omega) | (simp_all [plainB]; intros; subst_vars; simp_all; done) | (simp_all [plainB]; intros; exfalso; omega)), by first | exact below_step (below_set HB1.out (Nat.le_succ _)) HB9.out | exact (below_set HB1.out (Nat.le_succ _))⟩)
theorem treeRight_k0 (f0 : Int) (k1 : ¬f0 = 1) (k2 : ¬f0 = 2) (k3 : ¬f0 = 3) (k4 : ¬f0 = 4) (k5 : ¬f0 = 5) (k6 : ¬f0 = 6) (kL : Nat) (A : Option Addr) (c : Nat) (w : World) (hL0 : Aside0 (LaidW w)) (r z : Bool) (s : ByteArray) (l : List Nd) (v0 v1 : Int) (v2 : ByteArray) (v3 : Bool) (v4 c0 c1 : Int) (c2 c3 : Bool) (t0 t1 : Int) (t2 t3 : Bool) (vn : Bool) (L : Nat) (hlc : L ≤ c) (hmax : L ≤ 9223372036854775807) (ln : Int) (nm p2 p3 : Bool) (HV : Aside0 (value_Check.f v0 v1 v2 v3 v4 = some (if vn = true then 0 else 2))) (HL4 : Aside0 (tree_line.f kL s = some ln)) (HN4 : Aside0 (tree_name.f s = some nm)) (HP2 : Aside0 (tree_cell.f c0 c1 c2 c3 = some p2)) (HP3 : Aside0 (tree_cell.f t0 t1 t2 t3 = some p3)) (HT : Aside0 (∀ W, Below w.heap.size w W → Calls Tryz.prog 79 #[.slice A L c, .func (.func 80) #[] #[]] W fun e w' => e = .returned (.bool (!z)) ∧ Below W.heap.size W w')) (HR : Aside0 (((plainB ⟨f0, ⟨v0, v1, v2, v3, v4⟩, ⟨⟨c0, c1⟩, c2, c3⟩, ⟨⟨t0, t1⟩, t2, t3⟩, s, l⟩ && false) && z) = r)) :
  Calls Tryz.prog 54 #[.agg #[.int .i64 f0, .int .i64 v0, .int .i64 v1, .string v2, .bool v3, .int .i64 v4, .int .i64 c0, .int .i64 c1, .bool c2, .bool c3, .int .i64 t0, .int .i64 t1, .bool t2, .bool t3, .string s, .slice A L c]] w fun e w' => e = .returned (.bool r) ∧ Below w.heap.size w w' := by
 go_enter Tryz.func54, Tryz.ntmps54
 go_wp2_with (fail)
 all_goals (go_ret; exact ⟨ret_b (by rw [← HR.out]; simp), bel2 w _ _⟩)
theorem any_notS (C : Nd → Bool) : ∀ l : List Nd, l.any (fun x => !allS C x) = !(allL C l)
 | [] => by rw [allL]; rfl
 | x :: r => by rw [allL, List.any_cons, any_notS C r]; simp
theorem treeRight_calls (V : Nd → Bool) (LN : ByteArray → Int) (NM : ByteArray → Bool) (kL : Nat)
  (hV : ∀ n : Nd, value_Check.f n.f1.f0 n.f1.f1 n.f1.f2 n.f1.f3 n.f1.f4 = some (if V n = true then 0 else 2)) (hL : ∀ s, tree_line.f kL s = some (LN s)) (hN : ∀ s, tree_name.f s = some (NM s))
  (hC : ∀ (r k : Int) (p q : Bool), tree_cell.f r k p q = some (placeB r k)) (d : Nat) :
  ∀ (n : Nd) (A : Option Addr) (c : Nat) (w : World) (hd : szN n < d) (hK : KidsC w A c n.f5) (hL0 : Aside0 (LaidW w)),
  Calls Tryz.prog 54 #[nodeV n A c] w fun e w' => e = .returned (.bool (allS (fun n => plainB n && kindB V LN NM id n) n)) ∧ Below w.heap.size w w' := by
 induction d with
 | zero => intro n A c w hd; omega
 | succ d ih =>
  intro n A c w hd hK hL0
  have hlc := hK.1
  have hmax := hK.2.2.1
  generalize hCC : (fun n => plainB n && kindB V LN NM id n) = CC at ih ⊢
  have HT : Aside0 (∀ W, Below w.heap.size w W → Calls Tryz.prog 79 #[.slice A n.f5.length c, .func (.func 80) #[] #[]] W fun e w' => e = .returned (.bool (!(allL CC n.f5))) ∧ Below W.heap.size W w') := ⟨fun W hW => by
   have h := ContainsFunc_calls n.f5 (fun x => !allS CC x) A c W (hK.below hW) (fun k hk A' c' W' hW' hK' => right1_calls n.f5[k] A' c' (allS CC n.f5[k]) W' (fun W2 h2 => ih n.f5[k] A' c' W2 (by have := kid_lt (List.getElem_mem hk); omega) (hK'.below h2) (LaidAt (LaidAt (LaidAt hL0 hW) hW') h2)))
   rwa [any_notS] at h⟩
  clear ih hd hK
  generalize hr : allS CC n = r
  rw [allS_eq] at hr
  generalize allL CC n.f5 = z at HT hr
  rw [← hCC] at hr
  clear hCC
  replace hr : ((plainB n && kindB V LN NM id n) && z) = r := hr
  have HVx := Aside0.mk (hV n)
  have HL4x := Aside0.mk (hL n.f4)
  have HN4x := Aside0.mk (hN n.f4)
  have HP2x := Aside0.mk (hC n.f2.f0.f0 n.f2.f0.f1 n.f2.f1 n.f2.f2)
  have HP3x := Aside0.mk (hC n.f3.f0.f0 n.f3.f0.f1 n.f3.f1 n.f3.f2)
  unfold kindB at hr
  obtain ⟨f0, ⟨v0, v1, v2, v3, v4⟩, ⟨⟨c0, c1⟩, c2, c3⟩, ⟨⟨t0, t1⟩, t2, t3⟩, s, l⟩ := n
  generalize hvn : V ⟨f0, ⟨v0, v1, v2, v3, v4⟩, ⟨⟨c0, c1⟩, c2, c3⟩, ⟨⟨t0, t1⟩, t2, t3⟩, s, l⟩ = vn at HVx hr
  have HV : Aside0 (value_Check.f v0 v1 v2 v3 v4 = some (if vn = true then 0 else 2)) := HVx
  have HL4 : Aside0 (tree_line.f kL s = some (LN s)) := HL4x
  have HN4 : Aside0 (tree_name.f s = some (NM s)) := HN4x
  have HP2 : Aside0 (tree_cell.f c0 c1 c2 c3 = some (placeB c0 c1)) := HP2x
  have HP3 : Aside0 (tree_cell.f t0 t1 t2 t3 = some (placeB t0 t1)) := HP3x
  have HX : Aside0 (((plainB ⟨f0, ⟨v0, v1, v2, v3, v4⟩, ⟨⟨c0, c1⟩, c2, c3⟩, ⟨⟨t0, t1⟩, t2, t3⟩, s, l⟩ && (if f0 = 1 then decide (l.length = 0) && (vn && ((v0 != 0) && decide (0 ≤ v1))) else if f0 = 2 then decide (l.length = 0) && placeB c0 c1 else if f0 = 3 then decide (l.length = 0) && (placeB c0 c1 && placeB t0 t1) else if f0 = 4 then decide (l.length = 1) else if f0 = 5 then decide (l.length = 2) && decide (0 ≤ LN s) else if f0 = 6 then NM s && (s.toList == s.toList) else false)) && z) = r) := ⟨hr⟩
  clear hr hvn HVx HL4x HN4x HP2x HP3x hV hL hN hC
  unfold nodeV nodeA
  simp only at hlc hmax HT ⊢
  generalize hLl : l.length = L at hlc hmax HT HX ⊢
  generalize LN s = ln at HL4 HX
  generalize NM s = nm at HN4 HX
  generalize placeB c0 c1 = p2 at HP2 HX
  generalize placeB t0 t1 = p3 at HP3 HX
  clear hLl
  by_cases k1 : f0 = 1
  ·subst k1
   exact treeRight_k1 kL A c w hL0 r z s l v0 v1 v2 v3 v4 c0 c1 c2 c3 t0 t1 t2 t3 vn L hlc hmax ln nm p2 p3 HV HL4 HN4 HP2 HP3 HT ⟨by rw [← HX.out]; rfl⟩
  by_cases k2 : f0 = 2
  ·subst k2
   exact treeRight_k2 kL A c w hL0 r z s l v0 v1 v2 v3 v4 c0 c1 c2 c3 t0 t1 t2 t3 vn L hlc hmax ln nm p2 p3 HV HL4 HN4 HP2 HP3 HT ⟨by rw [← HX.out]; rfl⟩
  by_cases k3 : f0 = 3
  ·subst k3
   exact treeRight_k3 kL A c w hL0 r z s l v0 v1 v2 v3 v4 c0 c1 c2 c3 t0 t1 t2 t3 vn L hlc hmax ln nm p2 p3 HV HL4 HN4 HP2 HP3 HT ⟨by rw [← HX.out]; rfl⟩
  by_cases k4 : f0 = 4
  ·subst k4
   exact treeRight_k4 kL A c w hL0 r z s l v0 v1 v2 v3 v4 c0 c1 c2 c3 t0 t1 t2 t3 vn L hlc hmax ln nm p2 p3 HV HL4 HN4 HP2 HP3 HT ⟨by rw [← HX.out]; rfl⟩
  by_cases k5 : f0 = 5
  ·subst k5
   exact treeRight_k5 kL A c w hL0 r z s l v0 v1 v2 v3 v4 c0 c1 c2 c3 t0 t1 t2 t3 vn L hlc hmax ln nm p2 p3 HV HL4 HN4 HP2 HP3 HT ⟨by rw [← HX.out]; rfl⟩
  by_cases k6 : f0 = 6
  ·subst k6
   exact treeRight_k6 kL A c w hL0 r z s l v0 v1 v2 v3 v4 c0 c1 c2 c3 t0 t1 t2 t3 vn L hlc hmax ln nm p2 p3 HV HL4 HN4 HP2 HP3 HT ⟨by rw [← HX.out]; rfl⟩
  exact treeRight_k0 f0 k1 k2 k3 k4 k5 k6 kL A c w hL0 r z s l v0 v1 v2 v3 v4 c0 c1 c2 c3 t0 t1 t2 t3 vn L hlc hmax ln nm p2 p3 HV HL4 HN4 HP2 HP3 HT ⟨by rw [← HX.out, if_neg k1, if_neg k2, if_neg k3, if_neg k4, if_neg k5, if_neg k6]⟩
end Go.Proofs.YtopdjokncbpghaaGreatDoor.Pr
end
