/-
  Lemmas for the law FAllFTable.
-/
import Derived.Test.YtopdjokncbpghaaGreatDoorSFAllFTable7
import Derived.Test.YtopdjokncbpghaaGreatDoorSFAllFTable6
import Derived.Test.YtopdjokncbpghaaGreatDoorSFAllFTable21
import Derived.Test.YtopdjokncbpghaaGreatDoorSFAllFTable11
import Derived.Test.YtopdjokncbpghaaGreatDoorSFAllFTable14
import Derived.Deep.RegionHeld3
set_option maxHeartbeats 8000000
set_option maxRecDepth 100000
set_option linter.unusedVariables false
set_option linter.unusedSimpArgs false
section
namespace Go.Proofs.YtopdjokncbpghaaGreatDoor.Pr
open Go.RowKit Go.Proofs.YtopdjokncbpghaaGreatDoorW.PrintWords Go.Proofs.YtopdjokncbpghaaGreatDoorW.PrintLast Go.Proofs.YtopdjokncbpghaaGreatDoorW.PrintMore
mutual
/-- a test of a node and of all in it. -/
def allS (C : Nd → Bool) : Nd → Bool
 | ⟨a, b, c, d, e, l⟩ => C ⟨a, b, c, d, e, l⟩ && allL C l
def allL (C : Nd → Bool) : List Nd → Bool
 | [] => true
 | x :: r => allS C x && allL C r
end
theorem allS_eq (C : Nd → Bool) (n : Nd) : allS C n = (C n && allL C n.f5) := by cases n; rw [allS]
def placeB (r c : Int) : Bool := decide (1 ≤ r) && (decide (r ≤ 1048576) && (decide (1 ≤ c) && decide (c ≤ 16384)))
def kindB (V : Nd → Bool) (LN : ByteArray → Int) (NM : ByteArray → Bool) (FO : ByteArray → ByteArray) (n : Nd) : Bool :=
 if n.f0 = 1 then decide (n.f5.length = 0) && (V n && ((n.f1.f0 != 0) && decide (0 ≤ n.f1.f1)))
 else if n.f0 = 2 then decide (n.f5.length = 0) && placeB n.f2.f0.f0 n.f2.f0.f1
 else if n.f0 = 3 then decide (n.f5.length = 0) && (placeB n.f2.f0.f0 n.f2.f0.f1 && placeB n.f3.f0.f0 n.f3.f0.f1)
 else if n.f0 = 4 then decide (n.f5.length = 1)
 else if n.f0 = 5 then decide (n.f5.length = 2) && decide (0 ≤ LN n.f4)
 else if n.f0 = 6 then NM n.f4 && ((FO n.f4).toList == n.f4.toList)
 else false
abbrev KidsF (W : World) (b : Nat) (A : Option Addr) (c : Nat) (l : List Nd) : Prop := l.length ≤ c ∧ Kd.F k44 W (fun k => b ≤ k) A l.length l
theorem KidsF.now {W : World} {b : Nat} {A : Option Addr} {c : Nat} {l : List Nd} (h : KidsF W b A c l) : KidsC W A c l := ⟨h.1, Kd.F_now h.2⟩
theorem KidsF.below {W W1 : World} {b : Nat} {A : Option Addr} {c : Nat} {l : List Nd} (h : KidsF W b A c l) (hb : Below W.heap.size W W1) : KidsF W1 b A c l := ⟨h.1, Kd.F_below h.2 hb⟩
def NodeOut (n : Nd) (w : World) (e : Ending) (w' : World) : Prop := ∃ A c, e = .returned (nodeV n A c) ∧ KidsF w' w.heap.size A c n.f5 ∧ Below w.heap.size w w'
def rV (n : Nd) : Bool := (foolscapref04_Right.f n.f1.f0 n.f1.f1 n.f1.f2 n.f1.f3 n.f1.f4).getD false
theorem ite_some {α : Type} {c : Prop} [Decidable c] {a b : Option α} (ha : a.isSome = true) (hb : b.isSome = true) : (if c then a else b).isSome = true := by
 by_cases h : c
 ·rw [if_pos h]; exact ha
 ·rw [if_neg h]; exact hb
def rLN (s : ByteArray) : Int := (foolscapref08_Line.f 2 s).getD 0
theorem rLN_eq (s : ByteArray) : foolscapref08_Line.f 2 s = some (rLN s) := by
 have h : ∃ b, foolscapref08_Line.f 2 s = some b := by
  refine Option.isSome_iff_exists.mp ?_
  unfold foolscapref08_Line.f
  simp only [foolscapref08_Line.j0, foolscapref08_Line.j1]
  repeat' (first | rfl | refine ite_some ?_ ?_)
 obtain ⟨b, hb⟩ := h
 unfold rLN
 rw [hb]; rfl
def rNM (s : ByteArray) : Bool := (foolscapref07_Name.f 30 s).getD false
theorem letter_some (x : Int) : ∃ b, foolscapref07_letter.f x = some b := by
 unfold foolscapref07_letter.f
 repeat' split
 all_goals exact ⟨_, rfl⟩
theorem digit_some (x : Int) : ∃ b, foolscapref07_digit.f x = some b := by
 unfold foolscapref07_digit.f
 repeat' split
 all_goals exact ⟨_, rfl⟩
theorem nameL_some (s : ByteArray) (hs : s.size ≤ 20) : ∀ (k : Nat) (i : Int), 0 ≤ i → i ≤ s.size → (s.size : Int) < i + k → ∃ b, foolscapref07_Name.l0 k s i = some b
 | 0, i, h0, hi, h => by exfalso; omega
 | k + 1, i, h0, hi, h => by
  rw [foolscapref07_Name.l0]
  by_cases h1 : i < (s.size : Int)
  ·rw [if_pos h1, if_pos h0]
   have hw : wrap64 (i + 1) = i + 1 := by unfold wrap64; omega
   obtain ⟨b, hb⟩ := letter_some (bt s i)
   obtain ⟨c, hc⟩ := digit_some (bt s i)
   have ih := nameL_some s hs k (i + 1) (by omega) (by omega) (by omega)
   rw [hb, hw]
   simp only [Option.bind]
   rw [hc]
   simp only
   repeat' split
   all_goals first | exact ih | exact ⟨_, rfl⟩
  ·rw [if_neg h1]; exact ⟨_, rfl⟩
theorem rNM_eq (s : ByteArray) : foolscapref07_Name.f 30 s = some (rNM s) := by
 have h : ∃ b, foolscapref07_Name.f 30 s = some b := by
  unfold foolscapref07_Name.f
  by_cases h1 : (s.size : Int) < 1
  ·rw [if_pos h1]; exact ⟨_, rfl⟩
  ·rw [if_neg h1]
   by_cases h2 : (s.size : Int) > 20
   ·rw [if_pos h2]; exact ⟨_, rfl⟩
   ·rw [if_neg h2, if_pos (by omega)]
    obtain ⟨b, hb⟩ := letter_some (bt s 0)
    rw [hb]
    simp only [Option.bind]
    rw [show (30 : Nat) = 29 + 1 from rfl, foolscapref07_Name.j0]
    split
    ·exact ⟨_, rfl⟩
    ·exact nameL_some s (by omega) 29 0 (by omega) (by omega) (by omega)
 obtain ⟨b, hb⟩ := h
 unfold rNM
 rw [hb]; rfl
def rightS (n : Nd) : Bool := allS (fun n => plainB n && kindB rV rLN rNM foldB n) n
def depthI (n : Nd) : Int := if nodesS n 4096 > 4096 ∨ levelsS n 160 > 160 then 0 else levelsS n 160
def checkI (n : Nd) : Int := if levelsS n 160 > 160 then 6 else if nodesS n 4096 > 4096 then 7 else if rightS n = false then 2 else if levelsS n 160 > 40 then 6 else 0
theorem Depth_calls (n : Nd) (A : Option Addr) (c : Nat) (w : World) (hK : KidsC w A c n.f5) :
  Calls Tryz.prog 33 #[nodeV n A c] w fun e w' => e = .returned (.int .i64 (depthI n)) ∧ Below w.heap.size w w' := by
 have HC := Aside0.mk fun (W : World) (h : Below w.heap.size w W) => count_calls n A c 4096 160 W (hK.below h) (by omega) (by omega) (by omega) (by omega)
 clear hK
 have HD := Aside0.mk (show depthI n = if nodesS n 4096 > 4096 ∨ levelsS n 160 > 160 then 0 else levelsS n 160 from rfl)
 generalize depthI n = r at HD ⊢
 generalize nodesS n 4096 = p at HC HD
 generalize levelsS n 160 = q at HC HD
 go_enter Tryz.func33, Tryz.ntmps33
 go_wp2_with (go_at_call 52; (with_reducible refine (HC.out _ (bel1 _ _)).mono ?_); rintro e w1 ⟨rfl, hb⟩; have HB1 := Aside0.mk (below_step (bel1 _ _) hb); clear hb)
 all_goals (go_ret; exact ⟨ret_i (by rw [HD.out]; split <;> simp_all <;> omega), HB1.out⟩)
abbrev Ce := S41
def zeroV : S37 := ⟨0, 0, ⟨#[]⟩, false, 0⟩
def zeroC : Ce := ⟨⟨0, 0⟩, false, false⟩
def zeroN : Nd := ⟨0, zeroV, zeroC, zeroC, ⟨#[]⟩, []⟩
def refSlid.T5 : Bool × List (List Nat × List Nat) := (true, [([], []), ([], []), ([1], [1]), ([2], [2]), ([0, 3, 0], [0]), ([3, 4, 0, 1, 2, 3, 4], [3])])
def refSlid.B5 : List Nat := [0, 0, 2, 6, 15, 31]
theorem refSlid.bits5 : waitsOk refSlid.T5.2 refSlid.B5 = true := by kernel_rfl
theorem kidsF_nil (W : World) (b : Nat) (A : Option Addr) (c : Nat) : KidsF W b A c [] := ⟨Nat.zero_le _, fun W' _ => ⟨rfl, by simp, fun h => absurd h (Nat.lt_irrefl 0)⟩⟩
theorem newBlk3a (w : World) (o p q : Obj) : (((w.alloc o).alloc p).alloc q).heap[w.heap.size]? = some o := blk_alloc (blk_alloc (newBlk w o) p) q
theorem newBlk3b (w : World) (o p q : Obj) : (((w.alloc o).alloc p).alloc q).heap[w.heap.size + 1]? = some p := blk_alloc (newBlk2 w o p) q
theorem newBlk3c (w : World) (o p q : Obj) : (((w.alloc o).alloc p).alloc q).heap[w.heap.size + 2]? = some q := by
 have h := newBlk2 (w.alloc o) p q
 have e : (w.alloc o).heap.size = w.heap.size + 1 := by simp
 rwa [e] at h
theorem bel3 (w : World) (o p q : Obj) : Below w.heap.size w (((w.alloc o).alloc p).alloc q) := below_alloc (bel2 w o p) q
def moveStep.T4 : Bool × List (List Nat × List Nat) := (true, [([], []), ([0], [0]), ([1], [1]), ([], []), ([3], [3]), ([2, 4], [2, 4]), ([5], [5])])
def moveStep.B4 : List Nat := [0, 1, 3, 0, 8, 31, 63]
theorem moveStep.bits4 : waitsOk moveStep.T4.2 moveStep.B4 = true := by kernel_rfl
def moveStep.T6 : Bool × List (List Nat × List Nat) := (true, [([], []), ([0], [0]), ([1], [1]), ([], []), ([3], [3]), ([2, 4], [2, 4]), ([0, 0, 1, 2, 3, 4, 5], [0]), ([6, 5, 0, 1, 2, 3, 4, 5], [5, 6])])
def moveStep.B6 : List Nat := [0, 1, 3, 0, 8, 31, 63, 127]
theorem moveStep.bits6 : waitsOk moveStep.T6.2 moveStep.B6 = true := by kernel_rfl
def moveStep.T7 : Bool × List (List Nat × List Nat) := (true, [([], []), ([0], [0]), ([1], [1]), ([], []), ([3], [3]), ([2, 4], [2, 4])])
def moveStep.B7 : List Nat := [0, 1, 3, 0, 8, 31]
theorem moveStep.bits7 : waitsOk moveStep.T7.2 moveStep.B7 = true := by kernel_rfl
def moveStep.T1 : Bool × List (List Nat × List Nat) := (true, [([], []), ([0], [0]), ([1], [1]), ([], []), ([3], [3]), ([2, 4], [2, 4]), ([0, 0, 1, 2, 3, 4, 5], [0]), ([6, 5, 0, 1, 2, 3, 4, 5], [5, 6])])
def moveStep.B1 : List Nat := [0, 1, 3, 0, 8, 31, 63, 127]
theorem moveStep.bits1 : waitsOk moveStep.T1.2 moveStep.B1 = true := by kernel_rfl
theorem right_of_check {n : Nd} (h : checkI n = 0) : rightS n = true ∧ nodesS n 4096 ≤ 4096 := by
 unfold checkI at h
 by_cases h1 : levelsS n 160 > 160
 ·rw [if_pos h1] at h; omega
 ·rw [if_neg h1] at h
  by_cases h2 : nodesS n 4096 > 4096
  ·rw [if_pos h2] at h; omega
  ·rw [if_neg h2] at h
   by_cases h3 : rightS n = false
   ·rw [if_pos h3] at h; omega
   ·exact ⟨by simpa using h3, by omega⟩
mutual
def cntS : Nd → Nat
 | ⟨_, _, _, _, _, l⟩ => 1 + cntL l
def cntL : List Nd → Nat
 | [] => 0
 | x :: r => cntS x + cntL r
end
mutual
theorem nodesL_ge : ∀ (l : List Nd) (m a : Int), 0 ≤ m → 1 ≤ a → a ≤ m + 1 → a ≤ nodesL l m a
 | [], m, a, _, _, _ => by rw [nodesL]; omega
 | x :: r, m, a, h0, h1, h2 => by
  rw [nodesL]
  split
  ·have := nodesS_bd x (m - a) (by omega)
   have := nodesL_ge r m (a + nodesS x (m - a)) h0 (by omega) (by omega)
   omega
  ·omega
end
mutual
theorem nodes_cnt : ∀ (n : Nd) (m : Int), 0 ≤ m → nodesS n m ≤ m → nodesS n m = (cntS n : Int)
 | ⟨a, v, c, t, s, l⟩, m, h0, h => by
  rw [nodesS] at h ⊢
  have := nodes_cntL l m 1 h0 (by omega) (by omega) h
  rw [cntS]
  omega
theorem nodes_cntL : ∀ (l : List Nd) (m a : Int), 0 ≤ m → 1 ≤ a → a ≤ m + 1 → nodesL l m a ≤ m → nodesL l m a = a + (cntL l : Int)
 | [], m, a, _, _, _, _ => by rw [nodesL, cntL]; omega
 | x :: r, m, a, h0, h1, h2, h => by
  rw [nodesL] at h ⊢
  by_cases q : a ≤ m
  ·rw [if_pos q] at h ⊢
   have b := nodesS_bd x (m - a) (by omega)
   have g := nodesL_ge r m (a + nodesS x (m - a)) h0 (by omega) (by omega)
   have c := nodes_cnt x (m - a) (by omega) (by omega)
   have d := nodes_cntL r m (a + nodesS x (m - a)) h0 (by omega) (by omega) h
   rw [cntL]
   omega
  ·rw [if_neg q] at h; omega
end
end Go.Proofs.YtopdjokncbpghaaGreatDoor.Pr
end
