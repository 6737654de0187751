/-
  Lemmas for the law FAllFTable.
-/
import Derived.Test.YtopdjokncbpghaaGreatDoorSFAllFTable15
import Derived.Test.YtopdjokncbpghaaGreatDoorSFAllFTable24
import Derived.Test.YtopdjokncbpghaaGreatDoorSFAllFTable14
set_option maxHeartbeats 8000000
set_option maxRecDepth 100000
set_option linter.unusedVariables false
set_option linter.unusedSimpArgs false
section
namespace Go.Proofs.YtopdjokncbpghaaGreatDoor.Pr
open Go.RowKit Go.Proofs.YtopdjokncbpghaaGreatDoorW.PrintWords Go.Proofs.YtopdjokncbpghaaGreatDoorW.PrintLast Go.Proofs.YtopdjokncbpghaaGreatDoorW.PrintMore
abbrev tkA (t : Tk) : Array Value := #[.int .i64 t.f0, .int .i64 t.f1.f0, .int .i64 t.f1.f1, .string t.f1.f2, .bool t.f1.f3, .int .i64 t.f1.f4, .int .i64 t.f2.f0.f0, .int .i64 t.f2.f0.f1, .bool t.f2.f1, .bool t.f2.f2, .string t.f3, .int .i64 t.f4]
theorem KidsP.cell {W : World} {P : Nat → Prop} {A : Option Addr} {c : Nat} {l : List Nd} (h : KidsP W P A c l) (a : Addr) {v : Value} (hg : ∀ k, P k → k ≠ a.block) : KidsP (W.setCell a v) P A c l := ⟨h.1, Kd.F_step (ok := P) h.2 (fun z hz _ => Below.heap_setCell W a v z (hg z hz))⟩
theorem wrapI {z : Int} (h0 : -9223372036854775808 ≤ z) (h1 : z ≤ 9223372036854775807) : IntKind.i64.wrap z = z := by
 simp [IntKind.wrap, IntKind.signed, IntKind.bits]
 omega
theorem tok_range {l : List Tk} {i : Int} {t : Tk} (ht : tokS l i = some t) : (0 ≤ i ∧ i < (l.length : Int)) ∧ rd_T120 l i = t := by
 unfold tokS at ht
 split at ht
 ·rename_i h
  exact ⟨h, Option.some.inj ht⟩
 ·cases ht
def single7.T7 : Bool × List (List Nat × List Nat) := (true, [([], []), ([0], [0]), ([], []), ([], []), ([3], [3]), ([2, 4], [2, 4]), ([5], [5]), ([6], [6]), ([1, 7], [1, 7]), ([], []), ([9], [9]), ([8, 10], [8, 10]), ([11, 0, 1, 2, 3, 4, 5, 6, 7, 8, 9, 10, 11], [11])])
def single7.B7 : List Nat := [0, 1, 0, 0, 8, 28, 60, 124, 255, 0, 512, 2047, 4095]
theorem single7.tab7 : rtab .any (opsOf Tryz.f93 7) = single7.T7 := by kernel_rfl
theorem single7.bits7 : waitsOk single7.T7.2 single7.B7 = true := by kernel_rfl
theorem single_value (l : List Tk) (i : Int) (t : Tk) (A : Option Addr) (c : Nat) (w : World) (HT : Aside0 (TokC w A c l)) (ht : tokS l i = some t) (k1 : t.f0 = 1) :
  Calls Tryz.prog 93 #[.slice A l.length c, .int .i64 i] w (ReadOut ⟨⟨1, t.f1, zeroC, zeroC, ⟨#[]⟩, []⟩, i + 1, false⟩ w) := by
 have k1b : (t.f0 == 1) = true := by simp [k1]
 clear k1
 obtain ⟨hrng, htt⟩ := tok_range ht
 obtain ⟨ad, eA, x0, x1, x2, x3, x4, x5, x6, x7, x8, x9, x10, x11⟩ := at_T120 (Kd.C_below HT.out.2 (bel1 w (.cells Z18 116))) i hrng.1 hrng.2
 rw [htt] at x0 x1 x2 x3 x4 x5 x6 x7 x8 x9 x10 x11
 subst eA
 have hlc := HT.out.1
 have hmax := HT.out.2.2.1
 have p1 := eq_true hrng.1
 have p2 := eq_true hrng.2
 clear ht htt
 go_enter Tryz.func93, Tryz.ntmps93
 go_wp2_with (first
  | ((with_reducible refine gate_store (t := 120) (p := 5) (v := .tmp 12) rfl ?_); refine wpRowSt rfl 120 (.tmp 5) (.tmp 12) rfl (w.heap.size + 1) (tkA t) rfl rfl 120 _ (newBlk2 w _ _) (by kernel_rfl) rfl rfl ?_; have H5 := Aside0.mk (setRow_heap _ _ _ (tkA t) _ _ (newBlk2 w (.cells Z18 116) (.cells #[.int .i64 0, .int .i64 0, .int .i64 0, .string ⟨#[]⟩, .bool false, .int .i64 0, .int .i64 0, .int .i64 0, .bool false, .bool false, .string ⟨#[]⟩, .int .i64 0] 120))); have B4 := Aside0.mk (rowOther (tkA t) (blk_alloc (newBlk w (.cells Z18 116)) (.cells #[.int .i64 0, .int .i64 0, .int .i64 0, .string ⟨#[]⟩, .bool false, .int .i64 0, .int .i64 0, .int .i64 0, .bool false, .bool false, .string ⟨#[]⟩, .int .i64 0] 120)) (g := w.heap.size + 1) (by omega)); have HB := Aside0.mk (rowBelow (bel2 w (.cells Z18 116) (.cells #[.int .i64 0, .int .i64 0, .int .i64 0, .string ⟨#[]⟩, .bool false, .int .i64 0, .int .i64 0, .int .i64 0, .bool false, .bool false, .string ⟨#[]⟩, .int .i64 0] 120)) (Nat.le_succ _) (tkA t)); have hc5 := fun i => blk_cell H5.out i)
  | ((with_reducible refine gate_store (t := 116) (p := 4) (v := .tmp 22) rfl ?_); refine wpRowSt rfl 116 (.tmp 4) (.tmp 22) rfl (w.heap.size) #[.int .i64 1, .int .i64 t.f1.f0, .int .i64 t.f1.f1, .string t.f1.f2, .bool t.f1.f3, .int .i64 t.f1.f4, .int .i64 0, .int .i64 0, .bool false, .bool false, .int .i64 0, .int .i64 0, .bool false, .bool false, .string ⟨#[]⟩, .slice none 0 0, .int .i64 (i + 1), .bool false] rfl rfl 116 _ (B4.out) (by kernel_rfl) rfl rfl ?_))
 refine bodyPost_ret (results_cell_row rfl _ _ (w.heap.size) 116 #[.int .i64 1, .int .i64 t.f1.f0, .int .i64 t.f1.f1, .string t.f1.f2, .bool t.f1.f3, .int .i64 t.f1.f4, .int .i64 0, .int .i64 0, .bool false, .bool false, .int .i64 0, .int .i64 0, .bool false, .bool false, .string ⟨#[]⟩, .slice none 0 0, .int .i64 (i + 1), .bool false] (0, 0) _ rfl (setRow_heap _ _ _ _ _ _ (B4.out)) Tryz.underlying116 rfl (by kernel_rfl)) rfl ?_
 exact ⟨none, 0, rfl, kidsF_nil _ _ _ _, rowBelow HB.out (Nat.le_refl _) _⟩
theorem single_cell (l : List Tk) (i : Int) (t : Tk) (A : Option Addr) (c : Nat) (w : World) (HT : Aside0 (TokC w A c l)) (ht : tokS l i = some t) (k2 : t.f0 = 2) (HI : Aside0 (foolscapref08_is.f l (i + 1) ⟨#[58]⟩ = some false)) :
  Calls Tryz.prog 93 #[.slice A l.length c, .int .i64 i] w (ReadOut ⟨⟨2, zeroV, t.f2, zeroC, ⟨#[]⟩, []⟩, i + 1, false⟩ w) := by
 have k1 : ¬t.f0 = 1 := by omega
 have k1b : (t.f0 == 1) = false := by simp [k1]
 have k2b : (t.f0 == 2) = true := by simp [k2]
 clear k1 k2
 obtain ⟨hrng, htt⟩ := tok_range ht
 obtain ⟨ad, eA, x0, x1, x2, x3, x4, x5, x6, x7, x8, x9, x10, x11⟩ := at_T120 (Kd.C_below HT.out.2 (bel1 w (.cells Z18 116))) i hrng.1 hrng.2
 rw [htt] at x0 x1 x2 x3 x4 x5 x6 x7 x8 x9 x10 x11
 subst eA
 have hlc := HT.out.1
 have hmax := HT.out.2.2.1
 have p1 := eq_true hrng.1
 have p2 := eq_true hrng.2
 clear ht htt
 go_enter Tryz.func93, Tryz.ntmps93
 go_wp2_with (first
  | ((with_reducible refine gate_store (t := 120) (p := 5) (v := .tmp 12) rfl ?_); refine wpRowSt rfl 120 (.tmp 5) (.tmp 12) rfl (w.heap.size + 1) (tkA t) rfl rfl 120 _ (newBlk2 w _ _) (by kernel_rfl) rfl rfl ?_; have H5 := Aside0.mk (setRow_heap _ _ _ (tkA t) _ _ (newBlk2 w (.cells Z18 116) (.cells #[.int .i64 0, .int .i64 0, .int .i64 0, .string ⟨#[]⟩, .bool false, .int .i64 0, .int .i64 0, .int .i64 0, .bool false, .bool false, .string ⟨#[]⟩, .int .i64 0] 120))); have B4 := Aside0.mk (rowOther (tkA t) (blk_alloc (newBlk w (.cells Z18 116)) (.cells #[.int .i64 0, .int .i64 0, .int .i64 0, .string ⟨#[]⟩, .bool false, .int .i64 0, .int .i64 0, .int .i64 0, .bool false, .bool false, .string ⟨#[]⟩, .int .i64 0] 120)) (g := w.heap.size + 1) (by omega)); have HB := Aside0.mk (rowBelow (bel2 w (.cells Z18 116) (.cells #[.int .i64 0, .int .i64 0, .int .i64 0, .string ⟨#[]⟩, .bool false, .int .i64 0, .int .i64 0, .int .i64 0, .bool false, .bool false, .string ⟨#[]⟩, .int .i64 0] 120)) (Nat.le_succ _) (tkA t)); have hc5 := fun i => blk_cell H5.out i)
  | (go_at_call 94; (with_reducible refine (foolscapref08_is.calls _ _ _ _ _ _ _ (HT.out.below HB.out).2 HT.out.1 HI.out).mono ?_); clear HI; rintro e wn ⟨rfl, nd, rfl⟩; have D5 := Aside0.mk (blk_drewN H5.out nd); have D4 := Aside0.mk (blk_drewN B4.out nd); have DB := Aside0.mk (pw_below_drewN HB.out nd); have hd5 := fun i => blk_cell D5.out i)
  | ((with_reducible refine gate_store (t := 116) (p := 4) (v := .tmp 64) rfl ?_); refine wpRowSt rfl 116 (.tmp 4) (.tmp 64) rfl (w.heap.size) #[.int .i64 2, .int .i64 0, .int .i64 0, .string ⟨#[]⟩, .bool false, .int .i64 0, .int .i64 t.f2.f0.f0, .int .i64 t.f2.f0.f1, .bool t.f2.f1, .bool t.f2.f2, .int .i64 0, .int .i64 0, .bool false, .bool false, .string ⟨#[]⟩, .slice none 0 0, .int .i64 (i + 1), .bool false] rfl rfl 116 _ (D4.out) (by kernel_rfl) rfl rfl ?_))
 refine bodyPost_ret (results_cell_row rfl _ _ (w.heap.size) 116 #[.int .i64 2, .int .i64 0, .int .i64 0, .string ⟨#[]⟩, .bool false, .int .i64 0, .int .i64 t.f2.f0.f0, .int .i64 t.f2.f0.f1, .bool t.f2.f1, .bool t.f2.f2, .int .i64 0, .int .i64 0, .bool false, .bool false, .string ⟨#[]⟩, .slice none 0 0, .int .i64 (i + 1), .bool false] (0, 0) _ rfl (setRow_heap _ _ _ _ _ _ (D4.out)) Tryz.underlying116 rfl (by kernel_rfl)) rfl ?_
 exact ⟨none, 0, rfl, kidsF_nil _ _ _ _, rowBelow DB.out (Nat.le_refl _) _⟩
theorem single_norange (l : List Tk) (i : Int) (t : Tk) (u : Tk) (A : Option Addr) (c : Nat) (w : World) (HT : Aside0 (TokC w A c l)) (ht : tokS l i = some t) (k2 : t.f0 = 2) (HI : Aside0 (foolscapref08_is.f l (i + 1) ⟨#[58]⟩ = some true)) (hu : tokS l (i + 2) = some u) (ku : ¬u.f0 = 2) :
  Calls Tryz.prog 93 #[.slice A l.length c, .int .i64 i] w (ReadOut ⟨zeroN, i + 2, true⟩ w) := by
 have kub : (u.f0 == 2) = false := by simp [ku]
 clear ku
 obtain ⟨hr2, hu2⟩ := tok_range hu
 have q1 := eq_true hr2.1
 have q2 := eq_true hr2.2
 have k1 : ¬t.f0 = 1 := by omega
 have k1b : (t.f0 == 1) = false := by simp [k1]
 have k2b : (t.f0 == 2) = true := by simp [k2]
 clear k1 k2
 obtain ⟨hrng, htt⟩ := tok_range ht
 obtain ⟨ad, eA, x0, x1, x2, x3, x4, x5, x6, x7, x8, x9, x10, x11⟩ := at_T120 (Kd.C_below HT.out.2 (bel1 w (.cells Z18 116))) i hrng.1 hrng.2
 rw [htt] at x0 x1 x2 x3 x4 x5 x6 x7 x8 x9 x10 x11
 subst eA
 have hlc := HT.out.1
 have hmax := HT.out.2.2.1
 have p1 := eq_true hrng.1
 have p2 := eq_true hrng.2
 clear ht htt
 go_enter Tryz.func93, Tryz.ntmps93
 go_wp2_with (first
  | ((with_reducible refine gate_store (t := 120) (p := 5) (v := .tmp 12) rfl ?_); refine wpRowSt rfl 120 (.tmp 5) (.tmp 12) rfl (w.heap.size + 1) (tkA t) rfl rfl 120 _ (newBlk2 w _ _) (by kernel_rfl) rfl rfl ?_; have H5 := Aside0.mk (setRow_heap _ _ _ (tkA t) _ _ (newBlk2 w (.cells Z18 116) (.cells #[.int .i64 0, .int .i64 0, .int .i64 0, .string ⟨#[]⟩, .bool false, .int .i64 0, .int .i64 0, .int .i64 0, .bool false, .bool false, .string ⟨#[]⟩, .int .i64 0] 120))); have B4 := Aside0.mk (rowOther (tkA t) (blk_alloc (newBlk w (.cells Z18 116)) (.cells #[.int .i64 0, .int .i64 0, .int .i64 0, .string ⟨#[]⟩, .bool false, .int .i64 0, .int .i64 0, .int .i64 0, .bool false, .bool false, .string ⟨#[]⟩, .int .i64 0] 120)) (g := w.heap.size + 1) (by omega)); have HB := Aside0.mk (rowBelow (bel2 w (.cells Z18 116) (.cells #[.int .i64 0, .int .i64 0, .int .i64 0, .string ⟨#[]⟩, .bool false, .int .i64 0, .int .i64 0, .int .i64 0, .bool false, .bool false, .string ⟨#[]⟩, .int .i64 0] 120)) (Nat.le_succ _) (tkA t)); have hc5 := fun i => blk_cell H5.out i)
  | (go_at_call 94; (with_reducible refine (foolscapref08_is.calls _ _ _ _ _ _ _ (HT.out.below HB.out).2 HT.out.1 HI.out).mono ?_); clear HI; rintro e wn ⟨rfl, nd, rfl⟩; have D5 := Aside0.mk (blk_drewN H5.out nd); have D4 := Aside0.mk (blk_drewN B4.out nd); have DB := Aside0.mk (pw_below_drewN HB.out nd); have hd5 := fun i => blk_cell D5.out i; obtain ⟨ad2, eB, y0, y1, y2, y3, y4, y5, y6, y7, y8, y9, y10, y11⟩ := at_T120 (Kd.C_below HT.out.2 DB.out) (i + 2) hr2.1 hr2.2; obtain rfl : ad = ad2 := (by injection eB); rw [hu2] at y0 y1 y2 y3 y4 y5 y6 y7 y8 y9 y10 y11; clear eB)
  | ((with_reducible refine gate_store (t := 116) (p := 4) (v := .tmp 42) rfl ?_); refine wpRowSt rfl 116 (.tmp 4) (.tmp 42) rfl (w.heap.size) #[.int .i64 0, .int .i64 0, .int .i64 0, .string ⟨#[]⟩, .bool false, .int .i64 0, .int .i64 0, .int .i64 0, .bool false, .bool false, .int .i64 0, .int .i64 0, .bool false, .bool false, .string ⟨#[]⟩, .slice none 0 0, .int .i64 (i + 2), .bool true] rfl rfl 116 _ (D4.out) (by kernel_rfl) rfl rfl ?_))
 refine bodyPost_ret (results_cell_row rfl _ _ (w.heap.size) 116 #[.int .i64 0, .int .i64 0, .int .i64 0, .string ⟨#[]⟩, .bool false, .int .i64 0, .int .i64 0, .int .i64 0, .bool false, .bool false, .int .i64 0, .int .i64 0, .bool false, .bool false, .string ⟨#[]⟩, .slice none 0 0, .int .i64 (i + 2), .bool true] (0, 0) _ rfl (setRow_heap _ _ _ _ _ _ (D4.out)) Tryz.underlying116 rfl (by kernel_rfl)) rfl ?_
 exact ⟨none, 0, rfl, kidsF_nil _ _ _ _, rowBelow DB.out (Nat.le_refl _) _⟩
theorem single_range (l : List Tk) (i : Int) (t : Tk) (u : Tk) (A : Option Addr) (c : Nat) (w : World) (HT : Aside0 (TokC w A c l)) (ht : tokS l i = some t) (k2 : t.f0 = 2) (HI : Aside0 (foolscapref08_is.f l (i + 1) ⟨#[58]⟩ = some true)) (hu : tokS l (i + 2) = some u) (ku : u.f0 = 2) :
  Calls Tryz.prog 93 #[.slice A l.length c, .int .i64 i] w (ReadOut ⟨⟨3, zeroV, t.f2, u.f2, ⟨#[]⟩, []⟩, i + 3, false⟩ w) := by
 have kub : (u.f0 == 2) = true := by simp [ku]
 clear ku
 obtain ⟨hr2, hu2⟩ := tok_range hu
 have q1 := eq_true hr2.1
 have q2 := eq_true hr2.2
 have hw2 := wrapI (z := i + 2) (by omega) (by have := HT.out.2.2.1; omega)
 have hw3 := wrapI (z := i + 3) (by omega) (by have := HT.out.2.2.1; omega)
 have k1 : ¬t.f0 = 1 := by omega
 have k1b : (t.f0 == 1) = false := by simp [k1]
 have k2b : (t.f0 == 2) = true := by simp [k2]
 clear k1 k2
 obtain ⟨hrng, htt⟩ := tok_range ht
 obtain ⟨ad, eA, x0, x1, x2, x3, x4, x5, x6, x7, x8, x9, x10, x11⟩ := at_T120 (Kd.C_below HT.out.2 (bel1 w (.cells Z18 116))) i hrng.1 hrng.2
 rw [htt] at x0 x1 x2 x3 x4 x5 x6 x7 x8 x9 x10 x11
 subst eA
 have hlc := HT.out.1
 have hmax := HT.out.2.2.1
 have p1 := eq_true hrng.1
 have p2 := eq_true hrng.2
 clear ht htt
 go_enter Tryz.func93, Tryz.ntmps93
 go_wp2_with (first
  | ((with_reducible refine gate_store (t := 120) (p := 5) (v := .tmp 12) rfl ?_); refine wpRowSt rfl 120 (.tmp 5) (.tmp 12) rfl (w.heap.size + 1) (tkA t) rfl rfl 120 _ (newBlk2 w _ _) (by kernel_rfl) rfl rfl ?_; have H5 := Aside0.mk (setRow_heap _ _ _ (tkA t) _ _ (newBlk2 w (.cells Z18 116) (.cells #[.int .i64 0, .int .i64 0, .int .i64 0, .string ⟨#[]⟩, .bool false, .int .i64 0, .int .i64 0, .int .i64 0, .bool false, .bool false, .string ⟨#[]⟩, .int .i64 0] 120))); have B4 := Aside0.mk (rowOther (tkA t) (blk_alloc (newBlk w (.cells Z18 116)) (.cells #[.int .i64 0, .int .i64 0, .int .i64 0, .string ⟨#[]⟩, .bool false, .int .i64 0, .int .i64 0, .int .i64 0, .bool false, .bool false, .string ⟨#[]⟩, .int .i64 0] 120)) (g := w.heap.size + 1) (by omega)); have HB := Aside0.mk (rowBelow (bel2 w (.cells Z18 116) (.cells #[.int .i64 0, .int .i64 0, .int .i64 0, .string ⟨#[]⟩, .bool false, .int .i64 0, .int .i64 0, .int .i64 0, .bool false, .bool false, .string ⟨#[]⟩, .int .i64 0] 120)) (Nat.le_succ _) (tkA t)); have hc5 := fun i => blk_cell H5.out i)
  | (go_at_call 94; (with_reducible refine (foolscapref08_is.calls _ _ _ _ _ _ _ (HT.out.below HB.out).2 HT.out.1 HI.out).mono ?_); clear HI; rintro e wn ⟨rfl, nd, rfl⟩; have D5 := Aside0.mk (blk_drewN H5.out nd); have D4 := Aside0.mk (blk_drewN B4.out nd); have DB := Aside0.mk (pw_below_drewN HB.out nd); have hd5 := fun i => blk_cell D5.out i; obtain ⟨ad2, eB, y0, y1, y2, y3, y4, y5, y6, y7, y8, y9, y10, y11⟩ := at_T120 (Kd.C_below HT.out.2 DB.out) (i + 2) hr2.1 hr2.2; obtain rfl : ad = ad2 := (by injection eB); rw [hu2] at y0 y1 y2 y3 y4 y5 y6 y7 y8 y9 y10 y11; clear eB))
 refine start_ (n := 13) (S := (fun w' => w'.heap[w.heap.size + 1]? = some (.cells (tkA t) 120 (0, 0)) ∧ w'.cell? ⟨(ad.add ((i + 2).toNat * 12)).block, (ad.add ((i + 2).toNat * 12)).off + 6, none⟩ = some (.int .i64 u.f2.f0.f0) ∧ w'.cell? ⟨(ad.add ((i + 2).toNat * 12)).block, (ad.add ((i + 2).toNat * 12)).off + 7, none⟩ = some (.int .i64 u.f2.f0.f1) ∧ w'.cell? ⟨(ad.add ((i + 2).toNat * 12)).block, (ad.add ((i + 2).toNat * 12)).off + 8, none⟩ = some (.bool u.f2.f1) ∧ w'.cell? ⟨(ad.add ((i + 2).toNat * 12)).block, (ad.add ((i + 2).toNat * 12)).off + 9, none⟩ = some (.bool u.f2.f2))) (ds := [12]) (Array.replicate 13 false) (by kernel_rfl) rfl rfl ⟨blk_drew D5.out, y6, y7, y8, y9⟩ (fun hHeld => ?_)
 refine with_tabW single7.tab7 single7.bits7 (fun HT_ HW_ => ?_)
 refine pz 0 43 HT_ ?_; refine pz 2 45 HT_ ?_; refine pz 3 46 HT_ ?_; refine pz 4 47 HT_ ?_; refine pz 5 48 HT_ ?_; refine pz 6 49 HT_ ?_; refine pz 9 52 HT_ ?_; refine pz 10 53 HT_ ?_
 refine tz 1 44 HT_ HW_ (hr := (by rintro w' s0; have q1 := fun i => blk_cell s0.1 i; have z6 := s0.2.1; have z7 := s0.2.2.1; have z8 := s0.2.2.2.1; have z9 := s0.2.2.2.2; go_simp; with_reducible rfl)) (hS := hHeld) (h := ?_)
 refine tz 7 50 HT_ HW_ (hr := (by rintro w' s0; have q1 := fun i => blk_cell s0.1 i; have z6 := s0.2.1; have z7 := s0.2.2.1; have z8 := s0.2.2.2.1; have z9 := s0.2.2.2.2; go_simp; with_reducible rfl)) (hS := hHeld) (h := ?_)
 refine pz 8 51 HT_ ?_; refine pz 11 54 HT_ ?_
 refine lastI 12 none HT_ rfl rfl (by kernel_rfl) (by decide) (fun K hK => ?_)
 refine skip_ (by rfl) rfl (rowSkip (ty := 116) (x := .tmp 4) (y := .tmp 54) (g := w.heap.size) (cs := #[.int .i64 3, .int .i64 0, .int .i64 0, .string ⟨#[]⟩, .bool false, .int .i64 0, .int .i64 t.f2.f0.f0, .int .i64 t.f2.f0.f1, .bool t.f2.f1, .bool t.f2.f2, .int .i64 u.f2.f0.f0, .int .i64 u.f2.f0.f1, .bool u.f2.f1, .bool u.f2.f2, .string ⟨#[]⟩, .slice none 0 0, .int .i64 (i + 3), .bool false]) rfl rfl rfl (blk_drew D4.out) (by kernel_rfl) rfl rfl) ?_
 refine hK.out _ _ ?_
 clear hK K
 -- norm_
 refine done_ (done_of HT_.out (by kernel_rfl)) ?_
 go_wp2
 refine bodyPost_ret (results_cell_row rfl _ _ (w.heap.size) 116 #[.int .i64 3, .int .i64 0, .int .i64 0, .string ⟨#[]⟩, .bool false, .int .i64 0, .int .i64 t.f2.f0.f0, .int .i64 t.f2.f0.f1, .bool t.f2.f1, .bool t.f2.f2, .int .i64 u.f2.f0.f0, .int .i64 u.f2.f0.f1, .bool u.f2.f1, .bool u.f2.f2, .string ⟨#[]⟩, .slice none 0 0, .int .i64 (i + 3), .bool false] (0, 0) _ rfl (setRow_heap _ _ _ _ _ _ (blk_drew D4.out)) Tryz.underlying116 rfl (by kernel_rfl)) rfl ?_
 exact ⟨none, 0, rfl, kidsF_nil _ _ _ _, rowBelow (below_drew1 DB.out) (Nat.le_refl _) _⟩
theorem single_call (l : List Tk) (i : Int) (t : Tk) (L : List Nd) (Rl : Rd) (A : Option Addr) (c : Nat) (w : World) (HT : Aside0 (TokC w A c l)) (ht : tokS l i = some t) (k3 : t.f0 = 3) (HL : Aside0 (∀ W, Below w.heap.size w W → Calls Tryz.prog 117 #[.slice A l.length c, .int .i64 (wrap64 (i + 2))] W (ListOut L Rl W))) :
  Calls Tryz.prog 93 #[.slice A l.length c, .int .i64 i] w (ReadOut ⟨⟨6, zeroV, zeroC, zeroC, t.f3, L⟩, Rl.i, Rl.bad⟩ w) := by
 have k1 : ¬t.f0 = 1 := by omega
 have k2 : ¬t.f0 = 2 := by omega
 have k1b : (t.f0 == 1) = false := by simp [k1]
 have k2b : (t.f0 == 2) = false := by simp [k2]
 have k3b : (t.f0 == 3) = true := by simp [k3]
 clear k1 k2 k3
 obtain ⟨hrng, htt⟩ := tok_range ht
 obtain ⟨ad, eA, x0, x1, x2, x3, x4, x5, x6, x7, x8, x9, x10, x11⟩ := at_T120 (Kd.C_below HT.out.2 (bel1 w (.cells Z18 116))) i hrng.1 hrng.2
 rw [htt] at x0 x1 x2 x3 x4 x5 x6 x7 x8 x9 x10 x11
 subst eA
 have hlc := HT.out.1
 have hmax := HT.out.2.2.1
 have p1 := eq_true hrng.1
 have p2 := eq_true hrng.2
 clear ht htt
 go_enter Tryz.func93, Tryz.ntmps93
 go_wp2_with (first
  | ((with_reducible refine gate_store (t := 120) (p := 5) (v := .tmp 12) rfl ?_); refine wpRowSt rfl 120 (.tmp 5) (.tmp 12) rfl (w.heap.size + 1) (tkA t) rfl rfl 120 _ (newBlk2 w _ _) (by kernel_rfl) rfl rfl ?_; have H5 := Aside0.mk (setRow_heap _ _ _ (tkA t) _ _ (newBlk2 w (.cells Z18 116) (.cells #[.int .i64 0, .int .i64 0, .int .i64 0, .string ⟨#[]⟩, .bool false, .int .i64 0, .int .i64 0, .int .i64 0, .bool false, .bool false, .string ⟨#[]⟩, .int .i64 0] 120))); have B4 := Aside0.mk (rowOther (tkA t) (blk_alloc (newBlk w (.cells Z18 116)) (.cells #[.int .i64 0, .int .i64 0, .int .i64 0, .string ⟨#[]⟩, .bool false, .int .i64 0, .int .i64 0, .int .i64 0, .bool false, .bool false, .string ⟨#[]⟩, .int .i64 0] 120)) (g := w.heap.size + 1) (by omega)); have HB := Aside0.mk (rowBelow (bel2 w (.cells Z18 116) (.cells #[.int .i64 0, .int .i64 0, .int .i64 0, .string ⟨#[]⟩, .bool false, .int .i64 0, .int .i64 0, .int .i64 0, .bool false, .bool false, .string ⟨#[]⟩, .int .i64 0] 120)) (Nat.le_succ _) (tkA t)); have hc5 := fun i => blk_cell H5.out i)
  | (go_at_call 117; go_loud (with_reducible refine (HL.out _ HB.out).mono ?_); clear HL; rintro e w3 ⟨A3, c3, B3, d3, rfl, hF, hG, hb⟩; have hz := blk_lt H5.out; have HF3 := Aside0.mk (KidsP.mono (KidsP.bnd hF) (Q := fun k => w.heap.size + 1 < k ∧ k < w3.heap.size) (fun k hk => ⟨Nat.lt_of_lt_of_le hz hk.1, hk.2⟩)); have HB3 := Aside0.mk (below_step HB.out hb); have E5 := Aside0.mk (blk_below H5.out hb); have E4 := Aside0.mk (blk_below B4.out hb); have hlt := blk_lt E5.out; clear hb hF hG hc5)
  | ((with_reducible refine gate_store (t := 116) (p := 7) (v := .tmp 75) rfl ?_); refine wpRowSt rfl 116 (.tmp 7) (.tmp 75) rfl (w3.heap.size) (rdA Rl.n B3 d3 Rl.i Rl.bad) rfl rfl 116 _ (newBlk w3 _) (by kernel_rfl) rfl rfl ?_; have H7 := Aside0.mk (setRow_heap _ _ _ (rdA Rl.n B3 d3 Rl.i Rl.bad) _ _ (newBlk w3 (.cells Z18 116))); have V5 := Aside0.mk (rowOther (rdA Rl.n B3 d3 Rl.i Rl.bad) (blk_alloc E5.out (.cells Z18 116)) (g := w3.heap.size) (by omega)); have V4 := Aside0.mk (rowOther (rdA Rl.n B3 d3 Rl.i Rl.bad) (blk_alloc E4.out (.cells Z18 116)) (g := w3.heap.size) (by omega)); have hv5 := fun i => blk_cell V5.out i)
  | ((with_reducible refine gate_store (t := 44) (p := 80) (v := .tmp 79) rfl ?_); refine wpPartSt rfl 44 (.tmp 80) (.tmp 79) rfl (w3.heap.size) #[.int .i64 6, .int .i64 0, .int .i64 0, .string ⟨#[]⟩, .bool false, .int .i64 0, .int .i64 0, .int .i64 0, .bool false, .bool false, .int .i64 0, .int .i64 0, .bool false, .bool false, .string t.f3, .slice A3 L.length c3] #[.int .i64 6, .int .i64 0, .int .i64 0, .string ⟨#[]⟩, .bool false, .int .i64 0, .int .i64 0, .int .i64 0, .bool false, .bool false, .int .i64 0, .int .i64 0, .bool false, .bool false, .string t.f3, .slice A3 L.length c3, .int .i64 Rl.i, .bool Rl.bad] rfl rfl 116 _ (H7.out) (by kernel_rfl) (show 16 ≤ 18 by omega) rfl rfl ?_)
  | ((with_reducible refine gate_dst (N := 81) rfl ?_); refine wpPartLd 81 rfl rfl 116 (.tmp 7) rfl (w3.heap.size) rfl _ #[.int .i64 6, .int .i64 0, .int .i64 0, .string ⟨#[]⟩, .bool false, .int .i64 0, .int .i64 0, .int .i64 0, .bool false, .bool false, .int .i64 0, .int .i64 0, .bool false, .bool false, .string t.f3, .slice A3 L.length c3, .int .i64 Rl.i, .bool Rl.bad] [] (setRow_heap _ _ _ #[.int .i64 6, .int .i64 0, .int .i64 0, .string ⟨#[]⟩, .bool false, .int .i64 0, .int .i64 0, .int .i64 0, .bool false, .bool false, .int .i64 0, .int .i64 0, .bool false, .bool false, .string t.f3, .slice A3 L.length c3, .int .i64 Rl.i, .bool Rl.bad] _ _ H7.out) rfl Tryz.underlying116 rfl (by kernel_rfl) ?_)
  | ((with_reducible refine gate_store (t := 116) (p := 4) (v := .tmp 81) rfl ?_); refine wpRowSt rfl 116 (.tmp 4) (.tmp 81) rfl (w.heap.size) #[.int .i64 6, .int .i64 0, .int .i64 0, .string ⟨#[]⟩, .bool false, .int .i64 0, .int .i64 0, .int .i64 0, .bool false, .bool false, .int .i64 0, .int .i64 0, .bool false, .bool false, .string t.f3, .slice A3 L.length c3, .int .i64 Rl.i, .bool Rl.bad] rfl rfl 116 _ (rowOther #[.int .i64 6, .int .i64 0, .int .i64 0, .string ⟨#[]⟩, .bool false, .int .i64 0, .int .i64 0, .int .i64 0, .bool false, .bool false, .int .i64 0, .int .i64 0, .bool false, .bool false, .string t.f3, .slice A3 L.length c3, .int .i64 Rl.i, .bool Rl.bad] V4.out (g := w3.heap.size) (by omega)) (by kernel_rfl) rfl rfl ?_))
 refine bodyPost_ret (results_cell_row rfl _ _ (w.heap.size) 116 #[.int .i64 6, .int .i64 0, .int .i64 0, .string ⟨#[]⟩, .bool false, .int .i64 0, .int .i64 0, .int .i64 0, .bool false, .bool false, .int .i64 0, .int .i64 0, .bool false, .bool false, .string t.f3, .slice A3 L.length c3, .int .i64 Rl.i, .bool Rl.bad] (0, 0) _ rfl (setRow_heap _ _ _ _ _ _ (rowOther #[.int .i64 6, .int .i64 0, .int .i64 0, .string ⟨#[]⟩, .bool false, .int .i64 0, .int .i64 0, .int .i64 0, .bool false, .bool false, .int .i64 0, .int .i64 0, .bool false, .bool false, .string t.f3, .slice A3 L.length c3, .int .i64 Rl.i, .bool Rl.bad] V4.out (g := w3.heap.size) (by omega))) Tryz.underlying116 rfl (by kernel_rfl)) rfl ?_
 exact ⟨A3, c3, rfl, KidsP.mono (KidsP.row (KidsP.row (KidsP.row (KidsP.below HF3.out (bel1 w3 _)) _ _ (fun k hk => by have := hk.2; omega)) _ _ (fun k hk => by have := hk.2; omega)) _ _ (fun k hk => by have h1 := hk.1; omega)) (fun k hk => by have h1 := hk.1; show w.heap.size ≤ k; omega), rowBelow (rowBelow (rowBelow (below_alloc HB3.out _) (by omega) _) (by omega) _) (Nat.le_refl _) _⟩
theorem single_none (l : List Tk) (i : Int) (t : Tk) (A : Option Addr) (c : Nat) (w : World) (HT : Aside0 (TokC w A c l)) (ht : tokS l i = some t) (hk : ¬t.f0 = 1 ∧ ¬t.f0 = 2 ∧ ¬t.f0 = 3) (HI : Aside0 (foolscapref08_is.f l i ⟨#[40]⟩ = some false)) :
  Calls Tryz.prog 93 #[.slice A l.length c, .int .i64 i] w (ReadOut ⟨zeroN, i, true⟩ w) := by
 have k1 : ¬t.f0 = 1 := hk.1
 have k2 : ¬t.f0 = 2 := hk.2.1
 have k3 : ¬t.f0 = 3 := hk.2.2
 have k1b : (t.f0 == 1) = false := by simp [k1]
 have k2b : (t.f0 == 2) = false := by simp [k2]
 have k3b : (t.f0 == 3) = false := by simp [k3]
 clear k1 k2 k3 hk
 obtain ⟨hrng, htt⟩ := tok_range ht
 obtain ⟨ad, eA, x0, x1, x2, x3, x4, x5, x6, x7, x8, x9, x10, x11⟩ := at_T120 (Kd.C_below HT.out.2 (bel1 w (.cells Z18 116))) i hrng.1 hrng.2
 rw [htt] at x0 x1 x2 x3 x4 x5 x6 x7 x8 x9 x10 x11
 subst eA
 have hlc := HT.out.1
 have hmax := HT.out.2.2.1
 have p1 := eq_true hrng.1
 have p2 := eq_true hrng.2
 clear ht htt
 go_enter Tryz.func93, Tryz.ntmps93
 go_wp2_with (first
  | ((with_reducible refine gate_store (t := 120) (p := 5) (v := .tmp 12) rfl ?_); refine wpRowSt rfl 120 (.tmp 5) (.tmp 12) rfl (w.heap.size + 1) (tkA t) rfl rfl 120 _ (newBlk2 w _ _) (by kernel_rfl) rfl rfl ?_; have H5 := Aside0.mk (setRow_heap _ _ _ (tkA t) _ _ (newBlk2 w (.cells Z18 116) (.cells #[.int .i64 0, .int .i64 0, .int .i64 0, .string ⟨#[]⟩, .bool false, .int .i64 0, .int .i64 0, .int .i64 0, .bool false, .bool false, .string ⟨#[]⟩, .int .i64 0] 120))); have B4 := Aside0.mk (rowOther (tkA t) (blk_alloc (newBlk w (.cells Z18 116)) (.cells #[.int .i64 0, .int .i64 0, .int .i64 0, .string ⟨#[]⟩, .bool false, .int .i64 0, .int .i64 0, .int .i64 0, .bool false, .bool false, .string ⟨#[]⟩, .int .i64 0] 120)) (g := w.heap.size + 1) (by omega)); have HB := Aside0.mk (rowBelow (bel2 w (.cells Z18 116) (.cells #[.int .i64 0, .int .i64 0, .int .i64 0, .string ⟨#[]⟩, .bool false, .int .i64 0, .int .i64 0, .int .i64 0, .bool false, .bool false, .string ⟨#[]⟩, .int .i64 0] 120)) (Nat.le_succ _) (tkA t)); have hc5 := fun i => blk_cell H5.out i)
  | (go_at_call 94; (with_reducible refine (foolscapref08_is.calls _ _ _ _ _ _ _ (HT.out.below HB.out).2 HT.out.1 HI.out).mono ?_); clear HI; rintro e wn ⟨rfl, nd, rfl⟩; have D5 := Aside0.mk (blk_drewN H5.out nd); have D4 := Aside0.mk (blk_drewN B4.out nd); have DB := Aside0.mk (pw_below_drewN HB.out nd); have hd5 := fun i => blk_cell D5.out i)
  | ((with_reducible refine gate_store (t := 116) (p := 4) (v := .tmp 112) rfl ?_); refine wpRowSt rfl 116 (.tmp 4) (.tmp 112) rfl (w.heap.size) #[.int .i64 0, .int .i64 0, .int .i64 0, .string ⟨#[]⟩, .bool false, .int .i64 0, .int .i64 0, .int .i64 0, .bool false, .bool false, .int .i64 0, .int .i64 0, .bool false, .bool false, .string ⟨#[]⟩, .slice none 0 0, .int .i64 i, .bool true] rfl rfl 116 _ (D4.out) (by kernel_rfl) rfl rfl ?_))
 refine bodyPost_ret (results_cell_row rfl _ _ (w.heap.size) 116 #[.int .i64 0, .int .i64 0, .int .i64 0, .string ⟨#[]⟩, .bool false, .int .i64 0, .int .i64 0, .int .i64 0, .bool false, .bool false, .int .i64 0, .int .i64 0, .bool false, .bool false, .string ⟨#[]⟩, .slice none 0 0, .int .i64 i, .bool true] (0, 0) _ rfl (setRow_heap _ _ _ _ _ _ (D4.out)) Tryz.underlying116 rfl (by kernel_rfl)) rfl ?_
 exact ⟨none, 0, rfl, kidsF_nil _ _ _ _, rowBelow DB.out (Nat.le_refl _) _⟩
theorem single_paren_bad (l : List Tk) (i : Int) (t : Tk) (rn : Nd) (ri : Int) (A : Option Addr) (c : Nat) (w : World) (HT : Aside0 (TokC w A c l)) (ht : tokS l i = some t) (hk : ¬t.f0 = 1 ∧ ¬t.f0 = 2 ∧ ¬t.f0 = 3) (HI : Aside0 (foolscapref08_is.f l i ⟨#[40]⟩ = some true)) (HR : Aside0 (∀ W, Below w.heap.size w W → Calls Tryz.prog 70 #[.slice A l.length c, .int .i64 (i + 1), .int .i64 0] W (ReadOut ⟨rn, ri, true⟩ W))) :
  Calls Tryz.prog 93 #[.slice A l.length c, .int .i64 i] w (ReadOut ⟨rn, ri, true⟩ w) := by
 have k1 : ¬t.f0 = 1 := hk.1
 have k2 : ¬t.f0 = 2 := hk.2.1
 have k3 : ¬t.f0 = 3 := hk.2.2
 have k1b : (t.f0 == 1) = false := by simp [k1]
 have k2b : (t.f0 == 2) = false := by simp [k2]
 have k3b : (t.f0 == 3) = false := by simp [k3]
 clear k1 k2 k3 hk
 obtain ⟨hrng, htt⟩ := tok_range ht
 obtain ⟨ad, eA, x0, x1, x2, x3, x4, x5, x6, x7, x8, x9, x10, x11⟩ := at_T120 (Kd.C_below HT.out.2 (bel1 w (.cells Z18 116))) i hrng.1 hrng.2
 rw [htt] at x0 x1 x2 x3 x4 x5 x6 x7 x8 x9 x10 x11
 subst eA
 have hlc := HT.out.1
 have hmax := HT.out.2.2.1
 have p1 := eq_true hrng.1
 have p2 := eq_true hrng.2
 clear ht htt
 go_enter Tryz.func93, Tryz.ntmps93
 go_wp2_with (first
  | ((with_reducible refine gate_store (t := 120) (p := 5) (v := .tmp 12) rfl ?_); refine wpRowSt rfl 120 (.tmp 5) (.tmp 12) rfl (w.heap.size + 1) (tkA t) rfl rfl 120 _ (newBlk2 w _ _) (by kernel_rfl) rfl rfl ?_; have H5 := Aside0.mk (setRow_heap _ _ _ (tkA t) _ _ (newBlk2 w (.cells Z18 116) (.cells #[.int .i64 0, .int .i64 0, .int .i64 0, .string ⟨#[]⟩, .bool false, .int .i64 0, .int .i64 0, .int .i64 0, .bool false, .bool false, .string ⟨#[]⟩, .int .i64 0] 120))); have B4 := Aside0.mk (rowOther (tkA t) (blk_alloc (newBlk w (.cells Z18 116)) (.cells #[.int .i64 0, .int .i64 0, .int .i64 0, .string ⟨#[]⟩, .bool false, .int .i64 0, .int .i64 0, .int .i64 0, .bool false, .bool false, .string ⟨#[]⟩, .int .i64 0] 120)) (g := w.heap.size + 1) (by omega)); have HB := Aside0.mk (rowBelow (bel2 w (.cells Z18 116) (.cells #[.int .i64 0, .int .i64 0, .int .i64 0, .string ⟨#[]⟩, .bool false, .int .i64 0, .int .i64 0, .int .i64 0, .bool false, .bool false, .string ⟨#[]⟩, .int .i64 0] 120)) (Nat.le_succ _) (tkA t)); have hc5 := fun i => blk_cell H5.out i)
  | (go_at_call 94; (with_reducible refine (foolscapref08_is.calls _ _ _ _ _ _ _ (HT.out.below HB.out).2 HT.out.1 HI.out).mono ?_); clear HI; rintro e wn ⟨rfl, nd, rfl⟩; have D5 := Aside0.mk (blk_drewN H5.out nd); have D4 := Aside0.mk (blk_drewN B4.out nd); have DB := Aside0.mk (pw_below_drewN HB.out nd); have hd5 := fun i => blk_cell D5.out i)
  | (go_at_call 70; (with_reducible refine (HR.out _ DB.out).mono ?_); clear HR; rintro e w3 ⟨A3, c3, rfl, hF, hb⟩; have hz := blk_lt D5.out; have HF3 := Aside0.mk (KidsP.mono (KidsP.bnd hF) (Q := fun k => w.heap.size + 1 < k ∧ k < w3.heap.size) (fun k hk => ⟨Nat.lt_of_lt_of_le hz hk.1, hk.2⟩)); have HB3 := Aside0.mk (below_step DB.out hb); have E4 := Aside0.mk (blk_below D4.out hb); have hlt := blk_lt (blk_below D5.out hb); clear hb hF)
  | ((with_reducible refine gate_store (t := 116) (p := 8) (v := .tmp 89) rfl ?_); refine wpRowSt rfl 116 (.tmp 8) (.tmp 89) rfl (w3.heap.size) (rdA rn A3 c3 ri true) rfl rfl 116 _ (newBlk w3 _) (by kernel_rfl) rfl rfl ?_; have H8 := Aside0.mk (setRow_heap _ _ _ (rdA rn A3 c3 ri true) _ _ (newBlk w3 (.cells Z18 116))); have V4 := Aside0.mk (rowOther (rdA rn A3 c3 ri true) (blk_alloc E4.out (.cells Z18 116)) (g := w3.heap.size) (by omega)); have VB := Aside0.mk (rowBelow (below_alloc HB3.out (.cells Z18 116)) (show w.heap.size ≤ w3.heap.size by omega) (rdA rn A3 c3 ri true)); have hc8 := fun i => blk_cell H8.out i)
  | ((with_reducible refine gate_dst (N := 110) rfl ?_); refine wpPartLd 110 rfl rfl 116 (.tmp 8) rfl (w3.heap.size) rfl _ (rdA rn A3 c3 ri true) [] (H8.out) rfl Tryz.underlying116 rfl (by kernel_rfl) ?_)
  | ((with_reducible refine gate_store (t := 116) (p := 4) (v := .tmp 110) rfl ?_); refine wpRowSt rfl 116 (.tmp 4) (.tmp 110) rfl (w.heap.size) (rdA rn A3 c3 ri true) rfl rfl 116 _ (V4.out) (by kernel_rfl) rfl rfl ?_))
 refine bodyPost_ret (results_cell_row rfl _ _ (w.heap.size) 116 (rdA rn A3 c3 ri true) (0, 0) _ rfl (setRow_heap _ _ _ _ _ _ (V4.out)) Tryz.underlying116 rfl (by kernel_rfl)) rfl ?_
 exact ⟨A3, c3, rfl, KidsP.mono (KidsP.row (KidsP.row (KidsP.below HF3.out (bel1 w3 _)) _ _ (fun k hk => by have := hk.2; omega)) _ _ (fun k hk => by have h1 := hk.1; omega)) (fun k hk => by have h1 := hk.1; show w.heap.size ≤ k; omega), rowBelow VB.out (Nat.le_refl _) _⟩
theorem single_paren_open (l : List Tk) (i : Int) (t : Tk) (rn : Nd) (ri : Int) (A : Option Addr) (c : Nat) (w : World) (HT : Aside0 (TokC w A c l)) (ht : tokS l i = some t) (hk : ¬t.f0 = 1 ∧ ¬t.f0 = 2 ∧ ¬t.f0 = 3) (HI : Aside0 (foolscapref08_is.f l i ⟨#[40]⟩ = some true)) (HR : Aside0 (∀ W, Below w.heap.size w W → Calls Tryz.prog 70 #[.slice A l.length c, .int .i64 (i + 1), .int .i64 0] W (ReadOut ⟨rn, ri, false⟩ W))) (HJ : Aside0 (foolscapref08_is.f l ri ⟨#[41]⟩ = some false)) :
  Calls Tryz.prog 93 #[.slice A l.length c, .int .i64 i] w (ReadOut ⟨zeroN, ri, true⟩ w) := by
 have k1 : ¬t.f0 = 1 := hk.1
 have k2 : ¬t.f0 = 2 := hk.2.1
 have k3 : ¬t.f0 = 3 := hk.2.2
 have k1b : (t.f0 == 1) = false := by simp [k1]
 have k2b : (t.f0 == 2) = false := by simp [k2]
 have k3b : (t.f0 == 3) = false := by simp [k3]
 clear k1 k2 k3 hk
 obtain ⟨hrng, htt⟩ := tok_range ht
 obtain ⟨ad, eA, x0, x1, x2, x3, x4, x5, x6, x7, x8, x9, x10, x11⟩ := at_T120 (Kd.C_below HT.out.2 (bel1 w (.cells Z18 116))) i hrng.1 hrng.2
 rw [htt] at x0 x1 x2 x3 x4 x5 x6 x7 x8 x9 x10 x11
 subst eA
 have hlc := HT.out.1
 have hmax := HT.out.2.2.1
 have p1 := eq_true hrng.1
 have p2 := eq_true hrng.2
 clear ht htt
 go_enter Tryz.func93, Tryz.ntmps93
 go_wp2_with (first
  | ((with_reducible refine gate_store (t := 120) (p := 5) (v := .tmp 12) rfl ?_); refine wpRowSt rfl 120 (.tmp 5) (.tmp 12) rfl (w.heap.size + 1) (tkA t) rfl rfl 120 _ (newBlk2 w _ _) (by kernel_rfl) rfl rfl ?_; have H5 := Aside0.mk (setRow_heap _ _ _ (tkA t) _ _ (newBlk2 w (.cells Z18 116) (.cells #[.int .i64 0, .int .i64 0, .int .i64 0, .string ⟨#[]⟩, .bool false, .int .i64 0, .int .i64 0, .int .i64 0, .bool false, .bool false, .string ⟨#[]⟩, .int .i64 0] 120))); have B4 := Aside0.mk (rowOther (tkA t) (blk_alloc (newBlk w (.cells Z18 116)) (.cells #[.int .i64 0, .int .i64 0, .int .i64 0, .string ⟨#[]⟩, .bool false, .int .i64 0, .int .i64 0, .int .i64 0, .bool false, .bool false, .string ⟨#[]⟩, .int .i64 0] 120)) (g := w.heap.size + 1) (by omega)); have HB := Aside0.mk (rowBelow (bel2 w (.cells Z18 116) (.cells #[.int .i64 0, .int .i64 0, .int .i64 0, .string ⟨#[]⟩, .bool false, .int .i64 0, .int .i64 0, .int .i64 0, .bool false, .bool false, .string ⟨#[]⟩, .int .i64 0] 120)) (Nat.le_succ _) (tkA t)); have hc5 := fun i => blk_cell H5.out i)
  | (go_at_call 94; (with_reducible refine (foolscapref08_is.calls _ _ _ _ _ _ _ (HT.out.below HB.out).2 HT.out.1 HI.out).mono ?_); clear HI; rintro e wn ⟨rfl, nd, rfl⟩; have D5 := Aside0.mk (blk_drewN H5.out nd); have D4 := Aside0.mk (blk_drewN B4.out nd); have DB := Aside0.mk (pw_below_drewN HB.out nd); have hd5 := fun i => blk_cell D5.out i)
  | (go_at_call 70; (with_reducible refine (HR.out _ DB.out).mono ?_); clear HR; rintro e w3 ⟨A3, c3, rfl, hF, hb⟩; have hz := blk_lt D5.out; have HF3 := Aside0.mk (KidsP.mono (KidsP.bnd hF) (Q := fun k => w.heap.size + 1 < k ∧ k < w3.heap.size) (fun k hk => ⟨Nat.lt_of_lt_of_le hz hk.1, hk.2⟩)); have HB3 := Aside0.mk (below_step DB.out hb); have E4 := Aside0.mk (blk_below D4.out hb); have hlt := blk_lt (blk_below D5.out hb); clear hb hF)
  | ((with_reducible refine gate_store (t := 116) (p := 8) (v := .tmp 89) rfl ?_); refine wpRowSt rfl 116 (.tmp 8) (.tmp 89) rfl (w3.heap.size) (rdA rn A3 c3 ri false) rfl rfl 116 _ (newBlk w3 _) (by kernel_rfl) rfl rfl ?_; have H8 := Aside0.mk (setRow_heap _ _ _ (rdA rn A3 c3 ri false) _ _ (newBlk w3 (.cells Z18 116))); have V4 := Aside0.mk (rowOther (rdA rn A3 c3 ri false) (blk_alloc E4.out (.cells Z18 116)) (g := w3.heap.size) (by omega)); have VB := Aside0.mk (rowBelow (below_alloc HB3.out (.cells Z18 116)) (show w.heap.size ≤ w3.heap.size by omega) (rdA rn A3 c3 ri false)); have hc8 := fun i => blk_cell H8.out i)
  | (go_at_call 94; (with_reducible refine (foolscapref08_is.calls _ _ _ _ _ _ _ (HT.out.below VB.out).2 HT.out.1 HJ.out).mono ?_); clear HJ; rintro e wn ⟨rfl, nd2, rfl⟩; have W8 := Aside0.mk (blk_drewN H8.out nd2); have W4 := Aside0.mk (blk_drewN V4.out nd2); have WB := Aside0.mk (pw_below_drewN VB.out nd2); have hw8 := fun i => blk_cell W8.out i; have hwf := fun i => blk_frozen W8.out i)
  | ((with_reducible refine gate_store (t := 116) (p := 4) (v := .tmp 102) rfl ?_); refine wpRowSt rfl 116 (.tmp 4) (.tmp 102) rfl (w.heap.size) #[.int .i64 0, .int .i64 0, .int .i64 0, .string ⟨#[]⟩, .bool false, .int .i64 0, .int .i64 0, .int .i64 0, .bool false, .bool false, .int .i64 0, .int .i64 0, .bool false, .bool false, .string ⟨#[]⟩, .slice none 0 0, .int .i64 ri, .bool true] rfl rfl 116 _ (W4.out) (by kernel_rfl) rfl rfl ?_))
 refine bodyPost_ret (results_cell_row rfl _ _ (w.heap.size) 116 #[.int .i64 0, .int .i64 0, .int .i64 0, .string ⟨#[]⟩, .bool false, .int .i64 0, .int .i64 0, .int .i64 0, .bool false, .bool false, .int .i64 0, .int .i64 0, .bool false, .bool false, .string ⟨#[]⟩, .slice none 0 0, .int .i64 ri, .bool true] (0, 0) _ rfl (setRow_heap _ _ _ _ _ _ (W4.out)) Tryz.underlying116 rfl (by kernel_rfl)) rfl ?_
 exact ⟨none, 0, rfl, kidsF_nil _ _ _ _, rowBelow WB.out (Nat.le_refl _) _⟩
theorem single_paren (l : List Tk) (i : Int) (t : Tk) (rn : Nd) (ri : Int) (A : Option Addr) (c : Nat) (w : World) (HT : Aside0 (TokC w A c l)) (ht : tokS l i = some t) (hk : ¬t.f0 = 1 ∧ ¬t.f0 = 2 ∧ ¬t.f0 = 3) (HI : Aside0 (foolscapref08_is.f l i ⟨#[40]⟩ = some true)) (HR : Aside0 (∀ W, Below w.heap.size w W → Calls Tryz.prog 70 #[.slice A l.length c, .int .i64 (i + 1), .int .i64 0] W (ReadOut ⟨rn, ri, false⟩ W))) (HJ : Aside0 (foolscapref08_is.f l ri ⟨#[41]⟩ = some true)) :
  Calls Tryz.prog 93 #[.slice A l.length c, .int .i64 i] w (ReadOut ⟨rn, wrap64 (ri + 1), false⟩ w) := by
 have k1 : ¬t.f0 = 1 := hk.1
 have k2 : ¬t.f0 = 2 := hk.2.1
 have k3 : ¬t.f0 = 3 := hk.2.2
 have k1b : (t.f0 == 1) = false := by simp [k1]
 have k2b : (t.f0 == 2) = false := by simp [k2]
 have k3b : (t.f0 == 3) = false := by simp [k3]
 clear k1 k2 k3 hk
 obtain ⟨hrng, htt⟩ := tok_range ht
 obtain ⟨ad, eA, x0, x1, x2, x3, x4, x5, x6, x7, x8, x9, x10, x11⟩ := at_T120 (Kd.C_below HT.out.2 (bel1 w (.cells Z18 116))) i hrng.1 hrng.2
 rw [htt] at x0 x1 x2 x3 x4 x5 x6 x7 x8 x9 x10 x11
 subst eA
 have hlc := HT.out.1
 have hmax := HT.out.2.2.1
 have p1 := eq_true hrng.1
 have p2 := eq_true hrng.2
 clear ht htt
 go_enter Tryz.func93, Tryz.ntmps93
 go_wp2_with (first
  | ((with_reducible refine gate_store (t := 120) (p := 5) (v := .tmp 12) rfl ?_); refine wpRowSt rfl 120 (.tmp 5) (.tmp 12) rfl (w.heap.size + 1) (tkA t) rfl rfl 120 _ (newBlk2 w _ _) (by kernel_rfl) rfl rfl ?_; have H5 := Aside0.mk (setRow_heap _ _ _ (tkA t) _ _ (newBlk2 w (.cells Z18 116) (.cells #[.int .i64 0, .int .i64 0, .int .i64 0, .string ⟨#[]⟩, .bool false, .int .i64 0, .int .i64 0, .int .i64 0, .bool false, .bool false, .string ⟨#[]⟩, .int .i64 0] 120))); have B4 := Aside0.mk (rowOther (tkA t) (blk_alloc (newBlk w (.cells Z18 116)) (.cells #[.int .i64 0, .int .i64 0, .int .i64 0, .string ⟨#[]⟩, .bool false, .int .i64 0, .int .i64 0, .int .i64 0, .bool false, .bool false, .string ⟨#[]⟩, .int .i64 0] 120)) (g := w.heap.size + 1) (by omega)); have HB := Aside0.mk (rowBelow (bel2 w (.cells Z18 116) (.cells #[.int .i64 0, .int .i64 0, .int .i64 0, .string ⟨#[]⟩, .bool false, .int .i64 0, .int .i64 0, .int .i64 0, .bool false, .bool false, .string ⟨#[]⟩, .int .i64 0] 120)) (Nat.le_succ _) (tkA t)); have hc5 := fun i => blk_cell H5.out i)
  | (go_at_call 94; (with_reducible refine (foolscapref08_is.calls _ _ _ _ _ _ _ (HT.out.below HB.out).2 HT.out.1 HI.out).mono ?_); clear HI; rintro e wn ⟨rfl, nd, rfl⟩; have D5 := Aside0.mk (blk_drewN H5.out nd); have D4 := Aside0.mk (blk_drewN B4.out nd); have DB := Aside0.mk (pw_below_drewN HB.out nd); have hd5 := fun i => blk_cell D5.out i)
  | (go_at_call 70; (with_reducible refine (HR.out _ DB.out).mono ?_); clear HR; rintro e w3 ⟨A3, c3, rfl, hF, hb⟩; have hz := blk_lt D5.out; have HF3 := Aside0.mk (KidsP.mono (KidsP.bnd hF) (Q := fun k => w.heap.size + 1 < k ∧ k < w3.heap.size) (fun k hk => ⟨Nat.lt_of_lt_of_le hz hk.1, hk.2⟩)); have HB3 := Aside0.mk (below_step DB.out hb); have E4 := Aside0.mk (blk_below D4.out hb); have hlt := blk_lt (blk_below D5.out hb); clear hb hF)
  | ((with_reducible refine gate_store (t := 116) (p := 8) (v := .tmp 89) rfl ?_); refine wpRowSt rfl 116 (.tmp 8) (.tmp 89) rfl (w3.heap.size) (rdA rn A3 c3 ri false) rfl rfl 116 _ (newBlk w3 _) (by kernel_rfl) rfl rfl ?_; have H8 := Aside0.mk (setRow_heap _ _ _ (rdA rn A3 c3 ri false) _ _ (newBlk w3 (.cells Z18 116))); have V4 := Aside0.mk (rowOther (rdA rn A3 c3 ri false) (blk_alloc E4.out (.cells Z18 116)) (g := w3.heap.size) (by omega)); have VB := Aside0.mk (rowBelow (below_alloc HB3.out (.cells Z18 116)) (show w.heap.size ≤ w3.heap.size by omega) (rdA rn A3 c3 ri false)); have hc8 := fun i => blk_cell H8.out i)
  | (go_at_call 94; (with_reducible refine (foolscapref08_is.calls _ _ _ _ _ _ _ (HT.out.below VB.out).2 HT.out.1 HJ.out).mono ?_); clear HJ; rintro e wn ⟨rfl, nd2, rfl⟩; have W8 := Aside0.mk (blk_drewN H8.out nd2); have W4 := Aside0.mk (blk_drewN V4.out nd2); have WB := Aside0.mk (pw_below_drewN VB.out nd2); have hw8 := fun i => blk_cell W8.out i; have hwf := fun i => blk_frozen W8.out i)
  | ((with_reducible refine gate_dst (N := 110) rfl ?_); refine wpPartLd 110 rfl rfl 116 (.tmp 8) rfl (w3.heap.size) rfl _ (rdA rn A3 c3 (wrap64 (ri + 1)) false) [] (blk_put W8.out 16 _ (cs' := (rdA rn A3 c3 (wrap64 (ri + 1)) false)) rfl) rfl Tryz.underlying116 rfl (by kernel_rfl) ?_)
  | ((with_reducible refine gate_store (t := 116) (p := 4) (v := .tmp 110) rfl ?_); refine wpRowSt rfl 116 (.tmp 4) (.tmp 110) rfl (w.heap.size) (rdA rn A3 c3 (wrap64 (ri + 1)) false) rfl rfl 116 _ (blk_far (p := ⟨w3.heap.size, 16, none⟩) W4.out (show w.heap.size ≠ w3.heap.size by omega) _) (by kernel_rfl) rfl rfl ?_))
 refine bodyPost_ret (results_cell_row rfl _ _ (w.heap.size) 116 (rdA rn A3 c3 (wrap64 (ri + 1)) false) (0, 0) _ rfl (setRow_heap _ _ _ _ _ _ (blk_far (p := ⟨w3.heap.size, 16, none⟩) W4.out (show w.heap.size ≠ w3.heap.size by omega) _)) Tryz.underlying116 rfl (by kernel_rfl)) rfl ?_
 exact ⟨A3, c3, rfl, KidsP.mono (KidsP.row (KidsP.cell (KidsP.below (KidsP.row (KidsP.below HF3.out (bel1 w3 _)) _ _ (fun k hk => by have := hk.2; omega)) (pw_below_drewN (Below.refl _ _) nd2)) _ (fun k hk => by have h2 := hk.2; show k ≠ w3.heap.size; omega)) _ _ (fun k hk => by have h1 := hk.1; omega)) (fun k hk => by have h1 := hk.1; show w.heap.size ≤ k; omega), rowBelow (below_set WB.out (show w.heap.size ≤ w3.heap.size by omega)) (Nat.le_refl _) _⟩
theorem is_range {l : List Tk} {i : Int} {s : List UInt8} {b : Bool} (h : isS l i s = some b) : 0 ≤ i ∧ i < (l.length : Int) := by
 unfold isS foolscapref08_is.f at h
 by_cases h0 : 0 ≤ i
 ·rw [if_pos h0] at h
  by_cases h1 : i < (l.length : Int)
  ·exact ⟨h0, h1⟩
  ·rw [if_neg h1] at h; cases h
 ·rw [if_neg h0] at h; cases h
theorem single_step (k : Nat) (hR : ReadLaw k) (hL : ListLaw k) : SingleLaw (k + 1) := by
 intro l i R A c w hT h
 rw [singleS] at h
 cases ht : tokS l i with
 | none => rw [ht] at h; cases h
 | some t =>
  rw [ht] at h
  simp only [Option.bind_some] at h
  have hr := (tok_range ht).1
  have hm := hT.2.2.1
  have w1 : wrap64 (i + 1) = i + 1 := by unfold wrap64; omega
  by_cases k1 : t.f0 = 1
  ·rw [if_pos k1, w1] at h
   obtain rfl := Option.some.inj h
   exact single_value l i t A c w ⟨hT⟩ ht k1
  rw [if_neg k1] at h
  by_cases k2 : t.f0 = 2
  ·rw [if_pos k2, w1] at h
   cases hi : isS l (i + 1) [58] with
   | none => rw [hi] at h; cases h
   | some b =>
    rw [hi] at h
    simp only [Option.bind_some] at h
    have hr1 := is_range hi
    cases b with
    | false =>
     rw [if_neg (by simp)] at h
     obtain rfl := Option.some.inj h
     exact single_cell l i t A c w ⟨hT⟩ ht k2 ⟨hi⟩
    | true =>
     have w2 : wrap64 (i + 2) = i + 2 := by unfold wrap64; omega
     rw [if_pos rfl, w2] at h
     cases hu : tokS l (i + 2) with
     | none => rw [hu] at h; cases h
     | some u =>
      rw [hu] at h
      simp only [Option.bind_some] at h
      have hr2 := (tok_range hu).1
      have w3 : wrap64 (i + 3) = i + 3 := by unfold wrap64; omega
      rw [w3] at h
      by_cases ku : u.f0 = 2
      ·rw [if_pos ku] at h
       obtain rfl := Option.some.inj h
       exact single_range l i t u A c w ⟨hT⟩ ht k2 ⟨hi⟩ hu ku
      ·rw [if_neg ku] at h
       obtain rfl := Option.some.inj h
       exact single_norange l i t u A c w ⟨hT⟩ ht k2 ⟨hi⟩ hu ku
  rw [if_neg k2] at h
  by_cases k3 : t.f0 = 3
  ·rw [if_pos k3] at h
   cases hl : listS k l (wrap64 (i + 2)) with
   | none => rw [hl] at h; cases h
   | some p =>
    rw [hl] at h
    obtain ⟨L, Rl⟩ := p
    obtain rfl := Option.some.inj h
    exact single_call l i t L Rl A c w ⟨hT⟩ ht k3 ⟨fun W hW => hL l _ L Rl A c W (hT.below hW) hl⟩
  rw [if_neg k3] at h
  cases hi : isS l i [40] with
  | none => rw [hi] at h; cases h
  | some b =>
   rw [hi] at h
   simp only [Option.bind_some] at h
   cases b with
   | false =>
    rw [if_neg (by simp)] at h
    obtain rfl := Option.some.inj h
    exact single_none l i t A c w ⟨hT⟩ ht ⟨k1, k2, k3⟩ ⟨hi⟩
   | true =>
    rw [if_pos rfl, w1] at h
    cases hq : readS k l (i + 1) 0 with
    | none => rw [hq] at h; cases h
    | some r =>
     rw [hq] at h
     simp only [Option.bind_some] at h
     have HR : Aside0 (∀ W, Below w.heap.size w W → Calls Tryz.prog 70 #[.slice A l.length c, .int .i64 (i + 1), .int .i64 0] W (ReadOut r W)) := ⟨fun W hW => hR l _ _ r A c W (hT.below hW) hq⟩
     obtain ⟨rn, ri, rb⟩ := r
     cases rb with
     | true =>
      simp only [if_true] at h
      obtain rfl := Option.some.inj h
      exact single_paren_bad l i t rn ri A c w ⟨hT⟩ ht ⟨k1, k2, k3⟩ ⟨hi⟩ HR
     | false =>
      simp only [Bool.false_eq_true, if_false] at h
      cases hj : isS l ri [41] with
      | none => rw [hj] at h; cases h
      | some e =>
       rw [hj] at h
       simp only [Option.bind_some] at h
       cases e with
       | false =>
        rw [if_neg (by simp)] at h
        obtain rfl := Option.some.inj h
        exact single_paren_open l i t rn ri A c w ⟨hT⟩ ht ⟨k1, k2, k3⟩ ⟨hi⟩ HR ⟨hj⟩
       | true =>
        rw [if_pos rfl] at h
        obtain rfl := Option.some.inj h
        exact single_paren l i t rn ri A c w ⟨hT⟩ ht ⟨k1, k2, k3⟩ ⟨hi⟩ HR ⟨hj⟩
end Go.Proofs.YtopdjokncbpghaaGreatDoor.Pr
end
