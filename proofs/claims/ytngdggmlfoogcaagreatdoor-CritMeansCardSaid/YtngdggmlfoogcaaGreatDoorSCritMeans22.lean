/-
  What the law CritMeans leans on, out of the texts that were printed and written for this seat: only what its proof mentions (gathered by a program of the author's).
-/
import Derived.Test.YtngdggmlfoogcaaGreatDoorSCritMeans16
import Derived.Test.YtngdggmlfoogcaaGreatDoorSCritMeans17
import Derived.Test.YtngdggmlfoogcaaGreatDoorSCritMeans6
import Derived.Test.YtngdggmlfoogcaaGreatDoorSCritMeans19
import Derived.Test.YtngdggmlfoogcaaGreatDoorSCritMeans4
import Derived.Test.YtngdggmlfoogcaaGreatDoorSCritMeans5
import Derived.Test.YtngdggmlfoogcaaGreatDoorSCritMeans9
import Derived.Test.YtngdggmlfoogcaaGreatDoorSCritMeans8
import Derived.Test.YtngdggmlfoogcaaGreatDoorSCritMeans10
import Derived.Test.YtngdggmlfoogcaaGreatDoorSCritMeans14
import Derived.Test.YtngdggmlfoogcaaGreatDoorSCritMeans15
import Derived.Test.YtngdggmlfoogcaaGreatDoorSCritMeans12
import Derived.Test.YtngdggmlfoogcaaGreatDoorSCritMeans11
import Derived.Test.YtngdggmlfoogcaaGreatDoorSCritMeans21
import Derived.Test.YtngdggmlfoogcaaGreatDoorSCritMeans18
import Derived.Test.YtngdggmlfoogcaaGreatDoorSCritMeans13
import Derived.Test.YtngdggmlfoogcaaGreatDoorSCritMeans20
import Derived.Below
import Derived.Laws.NewBlocks
import Derived.Lib.Bytealg
import Derived.LoopTactic
import Derived.WalkKit
section
namespace Go.Proofs.YtngdggmlfoogcaaGreatDoor.Pr
set_option linter.unusedVariables false
set_option linter.unusedSimpArgs false
open Go.RowKit Go.Proofs.YtngdggmlfoogcaaGreatDoorW.PrintWords Go.Proofs.YtngdggmlfoogcaaGreatDoorW.PrintMore
def rightB (K n : Int) (s : List UInt8) (b : Bool) (c : Int) : Bool :=
  if K = 0 then n == 0 && (s == [] && (!b && c == 0))
  else if K = 1 then fitB n && (s == [] && (!b && c == 0))
  else if K = 2 then decide (s.length ≤ 255) && (n == 0 && (!b && c == 0))
  else if K = 3 then n == 0 && (s == [] && c == 0)
  else if K = 4 then decide (1 ≤ c ∧ c ≤ 7) && (n == 0 && (s == [] && !b))
  else false
theorem rightB_cases {K n : Int} {s : List UInt8} {b : Bool} {c : Int} (h : rightB K n s b c = true) :
    (K = 0 ∧ n = 0 ∧ s = [] ∧ b = false ∧ c = 0) ∨ (K = 1 ∧ fitB n = true ∧ s = [] ∧ b = false ∧ c = 0) ∨ (K = 2 ∧ s.length ≤ 255 ∧ n = 0 ∧ b = false ∧ c = 0) ∨ (K = 3 ∧ n = 0 ∧ s = [] ∧ c = 0) ∨ (K = 4 ∧ 1 ≤ c ∧ c ≤ 7 ∧ n = 0 ∧ s = [] ∧ b = false) := by
  unfold rightB at h
  by_cases k0 : K = 0
  · rw [if_pos k0] at h
    simp only [Bool.and_eq_true, beq_iff_eq, Bool.not_eq_true'] at h
    exact Or.inl ⟨k0, h.1, h.2.1, h.2.2.1, h.2.2.2⟩
  rw [if_neg k0] at h
  by_cases k1 : K = 1
  · rw [if_pos k1] at h
    simp only [Bool.and_eq_true, beq_iff_eq, Bool.not_eq_true'] at h
    exact Or.inr (Or.inl ⟨k1, h.1, h.2.1, h.2.2.1, h.2.2.2⟩)
  rw [if_neg k1] at h
  by_cases k2 : K = 2
  · rw [if_pos k2] at h
    simp only [Bool.and_eq_true, beq_iff_eq, Bool.not_eq_true', decide_eq_true_eq] at h
    exact Or.inr (Or.inr (Or.inl ⟨k2, h.1, h.2.1, h.2.2.1, h.2.2.2⟩))
  rw [if_neg k2] at h
  by_cases k3 : K = 3
  · rw [if_pos k3] at h
    simp only [Bool.and_eq_true, beq_iff_eq, Bool.not_eq_true'] at h
    exact Or.inr (Or.inr (Or.inr (Or.inl ⟨k3, h.1, h.2.1, h.2.2⟩)))
  rw [if_neg k3] at h
  by_cases k4 : K = 4
  · rw [if_pos k4] at h
    simp only [Bool.and_eq_true, beq_iff_eq, Bool.not_eq_true', decide_eq_true_eq] at h
    exact Or.inr (Or.inr (Or.inr (Or.inr ⟨k4, h.1.1, h.1.2, h.2.1, h.2.2.1, h.2.2.2⟩)))
  rw [if_neg k4] at h
  cases h
theorem bl_sz (s : List UInt8) : ((bl s).size : Int) = (s.length : Int) := by rw [bl_size]
theorem value_Check_eq (K n : Int) (s : List UInt8) (b : Bool) (c : Int) : value_Check.f K n (bl s) b c = some (if rightB K n s b c = true then 0 else 2) := by
  unfold value_Check.f rightB
  rw [num_Fits_fit]
  simp only [bl_toList, bl_sz, Option.bind_some]
  by_cases k0 : K = 0
  · simp only [if_pos k0, Bool.and_eq_true, beq_iff_eq, Bool.not_eq_true']
  simp only [if_neg k0]
  by_cases k1 : K = 1
  · simp only [if_pos k1, Bool.and_eq_true, beq_iff_eq, Bool.not_eq_true']
  simp only [if_neg k1]
  by_cases k2 : K = 2
  · simp only [if_pos k2, Bool.and_eq_true, beq_iff_eq, Bool.not_eq_true', decide_eq_true_eq]
    congr 1
    by_cases hl : s.length ≤ 255
    · simp only [hl, show ((s.length : Int) ≤ 255) = True from eq_true (by omega)]
    · simp only [hl, show ((s.length : Int) ≤ 255) = False from eq_false (by omega)]
  simp only [if_neg k2]
  by_cases k3 : K = 3
  · simp only [if_pos k3, Bool.and_eq_true, beq_iff_eq, Bool.not_eq_true']
  simp only [if_neg k3]
  by_cases k4 : K = 4
  · simp only [if_pos k4, Bool.and_eq_true, beq_iff_eq, Bool.not_eq_true', decide_eq_true_eq, and_assoc]
    congr 1
  simp only [if_neg k4]
  rfl
theorem ref_Right_eq (K n : Int) (s : List UInt8) (b : Bool) (c : Int) : foolscapref04_Right.f K n (bl s) b c = some (rightB K n s b c) := by
  unfold foolscapref04_Right.f rightB
  rw [ref01_Fits_fit]
  simp only [bl_toList, bl_sz, Option.bind_some]
  by_cases k0 : K = 0
  · simp only [if_pos k0]
    subst k0; rfl
  · simp only [if_neg k0]
    by_cases k1 : K = 1
    · simp only [if_pos k1]
      subst k1
      cases fitB n <;> rfl
    · simp only [if_neg k1]
      by_cases k2 : K = 2
      · simp only [if_pos k2]
        subst k2
        by_cases hl : s.length ≤ 255
        · rw [if_pos (by omega), decide_eq_true hl]; rfl
        · rw [if_neg (by omega), decide_eq_false hl]; rfl
      · simp only [if_neg k2]
        by_cases k3 : K = 3
        · simp only [if_pos k3]
          subst k3; rfl
        · simp only [if_neg k3]
          by_cases k4 : K = 4
          · simp only [if_pos k4]
            subst k4
            by_cases h1 : 1 ≤ c
            · rw [if_pos (show c ≥ 1 by omega)]
              by_cases h7 : c ≤ 7
              · rw [if_pos h7, decide_eq_true ⟨h1, h7⟩]; rfl
              · rw [if_neg h7, decide_eq_false (fun h => h7 h.2)]; rfl
            · rw [if_neg (show ¬ c ≥ 1 by omega), decide_eq_false (fun h => h1 h.1)]; rfl
          · simp only [if_neg k4]
def foldL (l : List UInt8) : List UInt8 := l.map up
theorem foldL_length (l : List UInt8) : (foldL l).length = l.length := by simp [foldL]
theorem value_Fold_eq (l : List UInt8) (h : l.length ≤ 140737488351232) : value_Fold.f (bl l) = some (bl (foldL l)) := by
  unfold value_Fold.f
  rw [if_pos (by rw [bl_size]; exact h)]
  unfold foldB foldL
  rw [bl_data]; rfl
theorem ref_Fold_eq (l : List UInt8) (h : l.length ≤ 140737488351232) : foolscapref04_Fold.f (bl l) = some (bl (foldL l)) := value_Fold_eq l h
def TRUEL : List UInt8 := [84, 82, 85, 69]
def FALSEL : List UInt8 := [70, 65, 76, 83, 69]
def truP (s : List UInt8) : Bool × Bool := (foldL s == TRUEL, foldL s == TRUEL || foldL s == FALSEL)
end Go.Proofs.YtngdggmlfoogcaaGreatDoor.Pr
namespace Go.Proofs.YtngdggmlfoogcaaGreatDoor.Pr
set_option linter.unusedVariables false
set_option linter.unusedSimpArgs false
open Go.RowKit Go.Proofs.YtngdggmlfoogcaaGreatDoorW.PrintWords Go.Proofs.YtngdggmlfoogcaaGreatDoorW.PrintMore
def readP (s : List UInt8) : Int × Int × List UInt8 × Bool × Int × Int :=
  if s = [] then (0, 0, [], false, 0, 0) else if (numL s).2 = 0 then (1, (numL s).1, [], false, 0, 0) else if (truP s).2 = true then (3, 0, [], (truP s).1, 0, 0) else match nameOf (bl s) with
  | some i => (4, 0, [], false, i, 0)
  | none => if s.length ≤ 255 then (2, 0, s, false, 0, 0) else (0, 0, [], false, 0, 7)
def toB (r : Int × Int × List UInt8 × Bool × Int × Int) : Int × Int × ByteArray × Bool × Int × Int := (r.1, r.2.1, bl r.2.2.1, r.2.2.2.1, r.2.2.2.2.1, r.2.2.2.2.2)
def nmsL : List ByteArray := [nm0, nm1, nm2, nm3, nm4, nm5, nm6, nm7]
theorem ref_Names_eq : foolscapref04_Names.f = some nmsL := rfl
theorem tl_iff (a : ByteArray) (s : List UInt8) : (a.toList = (bl s).toList) = (bl s = a) := by
  refine propext ⟨fun h => ?_, fun h => by rw [h]⟩
  rw [bl_toList, Lib.toList_data] at h
  rw [← h, bl_of]
theorem ref_Read_l0 (k : Nat) (hk : 10 ≤ k) (s : List UInt8) : foolscapref04_Read.l0 k (bl s) nmsL 1 = some (match nameOf (bl s) with
    | some i => (4, 0, bl [], false, i, 0)
    | none => if s.length ≤ 255 then (2, 0, bl s, false, 0, 0) else (0, 0, bl [], false, 0, 7)) := by
  obtain ⟨k, rfl⟩ : ∃ m, k = m + 8 := ⟨k - 8, by omega⟩
  unfold nameOf
  have w2 : wrap64 (1 + 1) = 2 := wN (by decide) (by decide)
  have w3 : wrap64 (2 + 1) = 3 := wN (by decide) (by decide)
  have w4 : wrap64 (3 + 1) = 4 := wN (by decide) (by decide)
  have w5 : wrap64 (4 + 1) = 5 := wN (by decide) (by decide)
  have w6 : wrap64 (5 + 1) = 6 := wN (by decide) (by decide)
  have w7 : wrap64 (6 + 1) = 7 := wN (by decide) (by decide)
  have w8 : wrap64 (7 + 1) = 8 := wN (by decide) (by decide)
  have r1 : rdOf ByteArray.empty nmsL 1 = nm1 := rfl
  have r2 : rdOf ByteArray.empty nmsL 2 = nm2 := rfl
  have r3 : rdOf ByteArray.empty nmsL 3 = nm3 := rfl
  have r4 : rdOf ByteArray.empty nmsL 4 = nm4 := rfl
  have r5 : rdOf ByteArray.empty nmsL 5 = nm5 := rfl
  have r6 : rdOf ByteArray.empty nmsL 6 = nm6 := rfl
  have r7 : rdOf ByteArray.empty nmsL 7 = nm7 := rfl
  have hn : (nmsL.length : Int) = 8 := rfl
  simp only [foolscapref04_Read.l0, hn, r1, w2, r2, w3, r3, w4, r4, w5, r5, w6, r6, w7, r7, w8, tl_iff]
  rw [if_pos (show (1 : Int) < 8 by decide), if_pos (show (0 : Int) ≤ 1 by decide)]
  by_cases e1 : bl s = nm1
  · rw [if_pos e1, if_pos e1]; rfl
  rw [if_neg e1, if_neg e1, if_pos (show (2 : Int) < 8 by decide), if_pos (show (0 : Int) ≤ 2 by decide)]
  by_cases e2 : bl s = nm2
  · rw [if_pos e2, if_pos e2]; rfl
  rw [if_neg e2, if_neg e2, if_pos (show (3 : Int) < 8 by decide), if_pos (show (0 : Int) ≤ 3 by decide)]
  by_cases e3 : bl s = nm3
  · rw [if_pos e3, if_pos e3]; rfl
  rw [if_neg e3, if_neg e3, if_pos (show (4 : Int) < 8 by decide), if_pos (show (0 : Int) ≤ 4 by decide)]
  by_cases e4 : bl s = nm4
  · rw [if_pos e4, if_pos e4]; rfl
  rw [if_neg e4, if_neg e4, if_pos (show (5 : Int) < 8 by decide), if_pos (show (0 : Int) ≤ 5 by decide)]
  by_cases e5 : bl s = nm5
  · rw [if_pos e5, if_pos e5]; rfl
  rw [if_neg e5, if_neg e5, if_pos (show (6 : Int) < 8 by decide), if_pos (show (0 : Int) ≤ 6 by decide)]
  by_cases e6 : bl s = nm6
  · rw [if_pos e6, if_pos e6]; rfl
  rw [if_neg e6, if_neg e6, if_pos (show (7 : Int) < 8 by decide), if_pos (show (0 : Int) ≤ 7 by decide)]
  by_cases e7 : bl s = nm7
  · rw [if_pos e7, if_pos e7]; rfl
  rw [if_neg e7, if_neg e7, if_neg (show ¬ (8 : Int) < 8 by decide), bl_sz]
  by_cases c3 : s.length ≤ 255
  · rw [if_neg (by omega)]; simp only [if_pos c3]
  · rw [if_pos (by omega)]; simp only [if_neg c3]; rfl
theorem ref_Read_eq (k : Nat) (hk : 320 ≤ k) (s : List UInt8) (hs : s.length ≤ 140737488351232) : foolscapref04_Read.f k (bl s) = some (toB (readP s)) := by
  unfold foolscapref04_Read.f readP
  rw [bl_toList]
  by_cases c0 : s = []
  · rw [if_pos c0, if_pos c0]; rfl
  rw [if_neg c0, if_neg c0, ref01_Parse_eq k (by omega), Option.bind_some]
  by_cases c1 : (numL s).2 = 0
  · rw [if_pos c1, if_pos c1]; rfl
  rw [if_neg c1, if_neg c1, ref_Fold_eq s hs, Option.bind_some, bl_toList]
  obtain ⟨k, rfl⟩ : ∃ m, k = m + 1 := ⟨k - 1, by omega⟩
  have ht : truP s = (foldL s == [84, 82, 85, 69], foldL s == [84, 82, 85, 69] || foldL s == [70, 65, 76, 83, 69]) := rfl
  have hfin : (match nameOf (bl s) with
    | some i => (4, 0, bl [], false, i, 0)
    | none => if s.length ≤ 255 then (2, 0, bl s, false, 0, 0) else ((0 : Int), (0 : Int), bl [], false, (0 : Int), (7 : Int))) = toB (match nameOf (bl s) with
    | some i => (4, 0, [], false, i, 0)
    | none => if s.length ≤ 255 then (2, 0, s, false, 0, 0) else (0, 0, [], false, 0, 7)) := by
    cases nameOf (bl s) with
    | some i => rfl
    | none =>
      by_cases c3 : s.length ≤ 255
      · simp only [if_pos c3]; rfl
      · simp only [if_neg c3]; rfl
  by_cases c2 : foldL s = [84, 82, 85, 69]
  · rw [if_pos c2, ht]
    simp only [foolscapref04_Read.j0]
    rw [if_pos trivial, bl_toList, c2]; rfl
  · rw [if_neg c2, ht]
    simp only [foolscapref04_Read.j0, bl_toList]
    by_cases c4 : foldL s = [70, 65, 76, 83, 69]
    · rw [c4]; rfl
    · have e4 : (foldL s == [70, 65, 76, 83, 69]) = false := beq_eq_false_iff_ne.mpr c4
      have e2 : (foldL s == [84, 82, 85, 69]) = false := beq_eq_false_iff_ne.mpr c2
      rw [e4, e2, if_neg (show ¬ (false = true) by decide), ref_Names_eq, Option.bind_some, ref_Read_l0 k (by omega), hfin]
      rfl
end Go.Proofs.YtngdggmlfoogcaaGreatDoor.Pr
namespace Go.Proofs.YtngdggmlfoogcaaGreatDoor.Pr
set_option linter.unusedVariables false
set_option linter.unusedSimpArgs false
open Go.RowKit Go.Proofs.YtngdggmlfoogcaaGreatDoorW.PrintWords Go.Proofs.YtngdggmlfoogcaaGreatDoorW.PrintMore
def cmpZ (a b : Int) : Int := if a < b then -1 else if b < a then 1 else 0
def rankZ (b : Bool) : Int := if b = true then 1 else 0
theorem cmpZ_self (a : Int) : cmpZ a a = 0 := by unfold cmpZ; rw [if_neg (Int.lt_irrefl a), if_neg (Int.lt_irrefl a)]
theorem nan_kind (a : Int) : api_Kind_68.f a = some false := by
  unfold api_Kind_68.f; simp
theorem nan_int (a : Int) : cmp_isNaN_int.f a = some false := by
  unfold cmp_isNaN_int.f; simp
theorem cmp_kind (a b : Int) : api_Kind_51.f a b = some (cmpZ a b) := by
  unfold api_Kind_51.f cmpZ
  rw [nan_kind, nan_kind, Option.bind_some, Option.bind_some, if_neg (by decide), if_neg (by decide)]
  split
  · rfl
  · split <;> rfl
theorem cmp_int (a b : Int) : cmp_Compare_int.f a b = some (cmpZ a b) := by
  unfold cmp_Compare_int.f cmpZ
  rw [nan_int, nan_int, Option.bind_some, Option.bind_some, if_neg (by decide), if_neg (by decide)]
  split
  · rfl
  · split <;> rfl
theorem rank_eq (b : Bool) : value_rank.f b = some (rankZ b) := by cases b <;> rfl
theorem sign_eq (a b : Int) : foolscapref04_sign.f (decide (a < b)) (decide (a > b)) = some (cmpZ a b) := by
  unfold foolscapref04_sign.f cmpZ
  by_cases h : a < b
  · rw [decide_eq_true h, if_pos rfl, if_pos h]
  · rw [decide_eq_false h, if_neg (by decide), if_neg h]
    by_cases h2 : b < a
    · rw [decide_eq_true (show a > b from h2), if_pos rfl, if_pos h2]
    · rw [decide_eq_false (show ¬ a > b from h2), if_neg (by decide), if_neg h2]
def orZ : List Int → Int
  | [] => 0
  | a :: r => if a = 0 then orZ r else a
theorem or_code (l : List Int) (hl : l.length ≤ 100) : ∀ (r p : List Int) (k : Nat), l = p ++ r → r.length < k → api_Code.l0 k 0 l (l.length : Int) (p.length : Int) = some (orZ r) := by
  intro r
  induction r with
  | nil =>
    intro p k h hk
    obtain ⟨k, rfl⟩ : ∃ m, k = m + 1 := ⟨k - 1, by simp at hk; omega⟩
    simp only [api_Code.l0]
    rw [if_neg (by subst h; simp)]
    rfl
  | cons a r ih =>
    intro p k h hk
    obtain ⟨k, rfl⟩ : ∃ m, k = m + 1 := ⟨k - 1, by simp at hk; omega⟩
    have hlen : l.length = p.length + r.length + 1 := by subst h; simp; omega
    have hrd : rd l (p.length : Int) = a := by subst h; simp [rd]
    simp only [api_Code.l0, hrd]
    rw [if_pos (by omega), if_pos (by omega), if_pos (by omega)]
    unfold orZ
    by_cases e : a = 0
    · rw [if_pos e, if_pos e, wN (by omega) (by omega)]
      have := ih (p ++ [a]) k (by rw [h]; simp) (by simp at hk; omega)
      simpa using this
    · rw [if_neg e, if_neg e]
theorem or_int (l : List Int) (hl : l.length ≤ 100) : ∀ (r p : List Int) (k : Nat), l = p ++ r → r.length < k → cmp_Or_int.l0 k 0 l (l.length : Int) (p.length : Int) = some (orZ r) := by
  intro r
  induction r with
  | nil =>
    intro p k h hk
    obtain ⟨k, rfl⟩ : ∃ m, k = m + 1 := ⟨k - 1, by simp at hk; omega⟩
    simp only [cmp_Or_int.l0]
    rw [if_neg (by subst h; simp)]
    rfl
  | cons a r ih =>
    intro p k h hk
    obtain ⟨k, rfl⟩ : ∃ m, k = m + 1 := ⟨k - 1, by simp at hk; omega⟩
    have hlen : l.length = p.length + r.length + 1 := by subst h; simp; omega
    have hrd : rd l (p.length : Int) = a := by subst h; simp [rd]
    simp only [cmp_Or_int.l0, hrd]
    rw [if_pos (by omega), if_pos (by omega), if_pos (by omega)]
    unfold orZ
    by_cases e : a = 0
    · rw [if_pos e, if_pos e, wN (by omega) (by omega)]
      have := ih (p ++ [a]) k (by rw [h]; simp) (by simp at hk; omega)
      simpa using this
    · rw [if_neg e, if_neg e]
theorem or_code_eq (k : Nat) (l : List Int) (hl : l.length ≤ 100) (hk : l.length < k) : api_Code.f k l = some (orZ l) := or_code l hl l [] k rfl hk
theorem or_int_eq (k : Nat) (l : List Int) (hl : l.length ≤ 100) (hk : l.length < k) : cmp_Or_int.f k l = some (orZ l) := or_int l hl l [] k rfl hk
def bytesZ (a b : List UInt8) : Int := Lib.compareBytes a b
theorem strings_Compare_eq (a b : List UInt8) : strings_Compare.f (bl a) (bl b) = some (bytesZ a b) := by
  unfold strings_Compare.f bytesZ
  rw [bl_data, bl_data]
theorem bt_at (p r : List UInt8) (c : UInt8) : bt (bl (p ++ c :: r)) (p.length : Int) = (c.toNat : Int) := by
  have hs : (⟨(p ++ c :: r).toArray⟩ : ByteArray).size = p.length + r.length + 1 := by simp [ByteArray.size]; omega
  unfold bt bl
  simp only [Int.toNat_natCast]
  rw [dif_pos (by rw [hs]; omega)]
  congr 2
  show (p ++ c :: r).toArray[p.length] = c
  simp
theorem u8_lt (a b : UInt8) : (a < b) = ((a.toNat : Int) < (b.toNat : Int)) := by
  refine propext ⟨fun h => ?_, fun h => ?_⟩
  · have := UInt8.lt_iff_toNat_lt.mp h; omega
  · exact UInt8.lt_iff_toNat_lt.mpr (by omega)
theorem u8_eq (a b : UInt8) : ((a.toNat : Int) = (b.toNat : Int)) = (a = b) := by
  refine propext ⟨fun h => ?_, fun h => by rw [h]⟩
  exact UInt8.toNat_inj.mp (by omega)
theorem ref_Bytes_l0 : ∀ (a b p q : List UInt8) (k : Nat), p.length = q.length → (p ++ a).length ≤ 1000 → (q ++ b).length ≤ 1000 → 2 * a.length + 2 ≤ k → foolscapref04_Bytes.l0 k (bl (p ++ a)) (bl (q ++ b)) (p.length : Int) = some (bytesZ a b) := by
  intro a
  induction a with
  | nil =>
    intro b p q k hpq h1 h2 hk
    obtain ⟨k, rfl⟩ : ∃ m, k = m + 2 := ⟨k - 2, by simp at hk; omega⟩
    simp only [foolscapref04_Bytes.l0, foolscapref04_Bytes.j1]
    simp only [List.length_append, List.length_nil] at h1 h2
    rw [if_neg (by rw [bl_size]; simp), if_neg (by decide)]
    rw [sign_eq, Option.bind_some, bl_size, bl_size]
    congr 1
    simp only [List.length_append, List.length_nil]
    cases b with
    | nil => unfold bytesZ Lib.compareBytes cmpZ; simp; omega
    | cons c b => unfold bytesZ Lib.compareBytes cmpZ; simp only [List.length_cons]; rw [if_pos (by omega)]
  | cons x a ih =>
    intro b p q k hpq h1 h2 hk
    obtain ⟨k, rfl⟩ : ∃ m, k = m + 2 := ⟨k - 2, by simp at hk; omega⟩
    simp only [foolscapref04_Bytes.l0, foolscapref04_Bytes.j1]
    simp only [List.length_append, List.length_cons] at h1 h2 hk
    rw [if_pos (by rw [bl_size]; simp; omega)]
    cases b with
    | nil =>
      rw [decide_eq_false (by rw [bl_size]; simp; omega), if_neg (by decide)]
      rw [sign_eq, Option.bind_some, bl_size, bl_size]
      congr 1
      unfold bytesZ Lib.compareBytes cmpZ
      simp only [List.length_append, List.length_cons, List.length_nil]
      rw [if_neg (by omega), if_pos (by omega)]
    | cons y b =>
      simp only [List.length_cons] at h2
      rw [decide_eq_true (by rw [bl_size]; simp; omega), if_pos rfl, if_pos (by omega), if_pos (by rw [bl_size]; simp; omega), if_pos (by rw [bl_size]; simp; omega)]
      have hx : bt (bl (p ++ x :: a)) (p.length : Int) = (x.toNat : Int) := bt_at p a x
      have hy : bt (bl (q ++ y :: b)) (p.length : Int) = (y.toNat : Int) := by rw [hpq]; exact bt_at q b y
      rw [hx, hy]
      by_cases e : x = y
      · rw [if_pos (by rw [e]), wN (by omega) (by omega)]
        have := ih b (p ++ [x]) (q ++ [y]) k (by simp [hpq]) (by simp; omega) (by simp; omega) (by omega)
        rw [show (((p ++ [x]).length : Nat) : Int) = (p.length : Int) + 1 by simp] at this
        simp only [List.append_assoc, List.cons_append, List.nil_append] at this
        rw [this]
        congr 1
        unfold bytesZ
        subst e
        conv => rhs; unfold Lib.compareBytes
        rw [if_neg (UInt8.lt_irrefl x), if_neg (UInt8.lt_irrefl x)]
      · rw [if_neg (by rw [u8_eq]; exact e), sign_eq, Option.bind_some]
        congr 1
        unfold bytesZ cmpZ
        conv => rhs; unfold Lib.compareBytes
        simp only [u8_lt]
        by_cases h : (x.toNat : Int) < (y.toNat : Int)
        · rw [if_pos h, if_pos h]
        · have hne : ¬ (x.toNat : Int) = (y.toNat : Int) := by rw [u8_eq]; exact e
          rw [if_neg h, if_neg h, if_pos (by omega), if_pos (by omega)]
theorem ref_Bytes_eq (k : Nat) (hk : 2100 ≤ k) (a b : List UInt8) (ha : a.length ≤ 1000) (hb : b.length ≤ 1000) : foolscapref04_Bytes.f k (bl a) (bl b) = some (bytesZ a b) :=
  ref_Bytes_l0 a b [] [] k rfl ha hb (by omega)
def compareP (K n : Int) (s : List UInt8) (b : Bool) (c : Int) (K' n' : Int) (s' : List UInt8) (b' : Bool) (c' : Int) : Int × Int :=
  if rightB K n s b c = true ∧ rightB K' n' s' b' c' = true then
    (if K = 4 then (0, c) else if K' = 4 then (0, c') else if K = 0 ∧ K' = 0 then (0, 0)
      else if K ≠ K' ∧ K ≠ 0 ∧ K' ≠ 0 then (cmpZ K K', 0)
      else if K = 1 ∨ K' = 1 then (cmpZ n n', 0) else if K = 2 ∨ K' = 2 then (bytesZ (foldL s) (foldL s'), 0) else (cmpZ (rankZ b) (rankZ b'), 0)) else (0, 2)
theorem right_len {K n : Int} {s : List UInt8} {b : Bool} {c : Int} (h : rightB K n s b c = true) : s.length ≤ 255 := by
  rcases rightB_cases h with ⟨_, _, rfl, _, _⟩ | ⟨_, _, rfl, _, _⟩ | ⟨_, hl, _, _, _⟩ | ⟨_, _, rfl, _⟩ | ⟨_, _, _, _, rfl, _⟩
  all_goals first | exact Nat.zero_le _ | exact hl
theorem value_Compare_j2 (k : Nat) (hk : 10 ≤ k) (K n : Int) (s : List UInt8) (b : Bool) (c : Int) (K' n' : Int) (s' : List UInt8) (b' : Bool) (c' : Int) (hs : s.length ≤ 255) (hs' : s'.length ≤ 255) :
    value_Compare.j2 k K n (bl s) b c K' n' (bl s') b' c' = some (orZ [cmpZ K K', cmpZ n n', bytesZ (foldL s) (foldL s'), cmpZ (rankZ b) (rankZ b')], 0) := by
  obtain ⟨k, rfl⟩ : ∃ m, k = m + 1 := ⟨k - 1, by omega⟩
  simp only [value_Compare.j2]
  rw [cmp_kind, Option.bind_some, cmp_int, Option.bind_some, value_Fold_eq s (by omega), Option.bind_some, value_Fold_eq s' (by omega), Option.bind_some, strings_Compare_eq, Option.bind_some, rank_eq, Option.bind_some, rank_eq, Option.bind_some, cmp_int, Option.bind_some, or_int_eq k _ (by simp) (by simp; omega), Option.bind_some]
theorem value_Compare_j0 (k : Nat) (hk : 20 ≤ k) (K n : Int) (s : List UInt8) (b : Bool) (c : Int) (K' n' : Int) (s' : List UInt8) (b' : Bool) (c' : Int) (hs : s.length ≤ 255) (hs' : s'.length ≤ 255) :
    value_Compare.j0 k false K n (bl s) b c K' n' (bl s') b' c' = some (if orZ [c, c'] = 0 then (orZ [cmpZ (if K = 0 then K' else K) (if K' = 0 then (if K = 0 then K' else K) else K'), cmpZ n n', bytesZ (foldL s) (foldL s'), cmpZ (rankZ b) (rankZ b')], 0) else (0, orZ [c, c'])) := by
  obtain ⟨k, rfl⟩ : ∃ m, k = m + 1 := ⟨k - 1, by omega⟩
  simp only [value_Compare.j0]
  rw [if_neg (by decide), or_code_eq k _ (by simp) (by simp; omega), Option.bind_some]
  obtain ⟨k, rfl⟩ : ∃ m, k = m + 1 := ⟨k - 1, by omega⟩
  by_cases hc : orZ [c, c'] = 0
  · rw [if_pos hc, if_pos hc]
    by_cases h0 : K = 0
    · rw [if_pos h0, if_pos h0]
      simp only [value_Compare.j1]
      by_cases h1 : K' = 0
      · rw [if_pos h1, if_pos h1, value_Compare_j2 k (by omega) _ _ _ _ _ _ _ _ _ _ hs hs']
      · rw [if_neg h1, if_neg h1, value_Compare_j2 k (by omega) _ _ _ _ _ _ _ _ _ _ hs hs']
    · rw [if_neg h0, if_neg h0]
      simp only [value_Compare.j1]
      by_cases h1 : K' = 0
      · rw [if_pos h1, if_pos h1, value_Compare_j2 k (by omega) _ _ _ _ _ _ _ _ _ _ hs hs']
      · rw [if_neg h1, if_neg h1, value_Compare_j2 k (by omega) _ _ _ _ _ _ _ _ _ _ hs hs']
  · rw [if_neg hc, if_neg hc]
theorem bytesZ_nil : bytesZ (foldL []) (foldL []) = 0 := rfl
theorem z12 : cmpZ 1 2 = -1 := by decide
theorem z13 : cmpZ 1 3 = -1 := by decide
theorem z21 : cmpZ 2 1 = 1 := by decide
theorem z23 : cmpZ 2 3 = -1 := by decide
theorem z31 : cmpZ 3 1 = 1 := by decide
theorem z32 : cmpZ 3 2 = 1 := by decide
theorem value_Compare_eq (k : Nat) (hk : 20 ≤ k) (K n : Int) (s : List UInt8) (b : Bool) (c : Int) (K' n' : Int) (s' : List UInt8) (b' : Bool) (c' : Int) : value_Compare.f k K n (bl s) b c K' n' (bl s') b' c' = some (compareP K n s b c K' n' s' b' c') := by
  unfold value_Compare.f compareP
  rw [value_Check_eq, Option.bind_some]
  cases h : rightB K n s b c with
  | false =>
    rw [if_neg (by decide)]
    obtain ⟨k, rfl⟩ : ∃ m, k = m + 1 := ⟨k - 1, by omega⟩
    simp [value_Compare.j0]
  | true =>
    rw [if_pos rfl, if_pos rfl, value_Check_eq, Option.bind_some]
    cases h' : rightB K' n' s' b' c' with
    | false =>
      obtain ⟨k, rfl⟩ : ∃ m, k = m + 1 := ⟨k - 1, by omega⟩
      simp [value_Compare.j0]
    | true =>
      rw [if_pos rfl, show ((0 : Int) != 0) = false from rfl, value_Compare_j0 k hk _ _ _ _ _ _ _ _ _ _ (right_len h) (right_len h'), if_pos (show (true = true ∧ true = true) from ⟨rfl, rfl⟩)]
      have hl := right_len h
      have hl' := right_len h'
      have g := rightB_cases h
      have g' := rightB_cases h'
      clear h h'
      rcases g with ⟨rfl, rfl, rfl, rfl, rfl⟩ | ⟨rfl, hf, rfl, rfl, rfl⟩ | ⟨rfl, hl, rfl, rfl, rfl⟩ | ⟨rfl, rfl, rfl, rfl⟩ | ⟨rfl, h1, h7, rfl, rfl, rfl⟩
      · rcases g' with ⟨rfl, rfl, rfl, rfl, rfl⟩ | ⟨rfl, hf', rfl, rfl, rfl⟩ | ⟨rfl, hl', rfl, rfl, rfl⟩ | ⟨rfl, rfl, rfl, rfl⟩ | ⟨rfl, h1', h7', rfl, rfl, rfl⟩
        · simp [orZ, cmpZ_self, bytesZ_nil, z12, z13, z21, z23, z31, z32]; try exact fun h0 => h0.symm
        · simp [orZ, cmpZ_self, bytesZ_nil, z12, z13, z21, z23, z31, z32]; try exact fun h0 => h0.symm
        · simp [orZ, cmpZ_self, bytesZ_nil, z12, z13, z21, z23, z31, z32]; try exact fun h0 => h0.symm
        · simp [orZ, cmpZ_self, bytesZ_nil, z12, z13, z21, z23, z31, z32]; try exact fun h0 => h0.symm
        · have hc0 : ¬ c' = 0 := by omega
          simp [hc0, orZ, cmpZ_self, bytesZ_nil, z12, z13, z21, z23, z31, z32]
      · rcases g' with ⟨rfl, rfl, rfl, rfl, rfl⟩ | ⟨rfl, hf', rfl, rfl, rfl⟩ | ⟨rfl, hl', rfl, rfl, rfl⟩ | ⟨rfl, rfl, rfl, rfl⟩ | ⟨rfl, h1', h7', rfl, rfl, rfl⟩
        · simp [orZ, cmpZ_self, bytesZ_nil, z12, z13, z21, z23, z31, z32]; try exact fun h0 => h0.symm
        · simp [orZ, cmpZ_self, bytesZ_nil, z12, z13, z21, z23, z31, z32]; try exact fun h0 => h0.symm
        · simp [orZ, cmpZ_self, bytesZ_nil, z12, z13, z21, z23, z31, z32]; try exact fun h0 => h0.symm
        · simp [orZ, cmpZ_self, bytesZ_nil, z12, z13, z21, z23, z31, z32]; try exact fun h0 => h0.symm
        · have hc0 : ¬ c' = 0 := by omega
          simp [hc0, orZ, cmpZ_self, bytesZ_nil, z12, z13, z21, z23, z31, z32]
      · rcases g' with ⟨rfl, rfl, rfl, rfl, rfl⟩ | ⟨rfl, hf', rfl, rfl, rfl⟩ | ⟨rfl, hl', rfl, rfl, rfl⟩ | ⟨rfl, rfl, rfl, rfl⟩ | ⟨rfl, h1', h7', rfl, rfl, rfl⟩
        · simp [orZ, cmpZ_self, bytesZ_nil, z12, z13, z21, z23, z31, z32]; try exact fun h0 => h0.symm
        · simp [orZ, cmpZ_self, bytesZ_nil, z12, z13, z21, z23, z31, z32]; try exact fun h0 => h0.symm
        · simp [orZ, cmpZ_self, bytesZ_nil, z12, z13, z21, z23, z31, z32]; try exact fun h0 => h0.symm
        · simp [orZ, cmpZ_self, bytesZ_nil, z12, z13, z21, z23, z31, z32]; try exact fun h0 => h0.symm
        · have hc0 : ¬ c' = 0 := by omega
          simp [hc0, orZ, cmpZ_self, bytesZ_nil, z12, z13, z21, z23, z31, z32]
      · rcases g' with ⟨rfl, rfl, rfl, rfl, rfl⟩ | ⟨rfl, hf', rfl, rfl, rfl⟩ | ⟨rfl, hl', rfl, rfl, rfl⟩ | ⟨rfl, rfl, rfl, rfl⟩ | ⟨rfl, h1', h7', rfl, rfl, rfl⟩
        · simp [orZ, cmpZ_self, bytesZ_nil, z12, z13, z21, z23, z31, z32]; try exact fun h0 => h0.symm
        · simp [orZ, cmpZ_self, bytesZ_nil, z12, z13, z21, z23, z31, z32]; try exact fun h0 => h0.symm
        · simp [orZ, cmpZ_self, bytesZ_nil, z12, z13, z21, z23, z31, z32]; try exact fun h0 => h0.symm
        · simp [orZ, cmpZ_self, bytesZ_nil, z12, z13, z21, z23, z31, z32]; try exact fun h0 => h0.symm
        · have hc0 : ¬ c' = 0 := by omega
          simp [hc0, orZ, cmpZ_self, bytesZ_nil, z12, z13, z21, z23, z31, z32]
      · rcases g' with ⟨rfl, rfl, rfl, rfl, rfl⟩ | ⟨rfl, hf', rfl, rfl, rfl⟩ | ⟨rfl, hl', rfl, rfl, rfl⟩ | ⟨rfl, rfl, rfl, rfl⟩ | ⟨rfl, h1', h7', rfl, rfl, rfl⟩
        all_goals (have hc0 : ¬ c = 0 := by omega)
        all_goals simp [hc0, orZ, cmpZ_self, bytesZ_nil, z12, z13, z21, z23, z31, z32]
theorem ref_Compare_eq (k : Nat) (hk : 2200 ≤ k) (K n : Int) (s : List UInt8) (b : Bool) (c : Int) (K' n' : Int) (s' : List UInt8) (b' : Bool) (c' : Int) : foolscapref04_Compare.f k K n (bl s) b c K' n' (bl s') b' c' = some (compareP K n s b c K' n' s' b' c') := by
  obtain ⟨k, rfl⟩ : ∃ m, k = m + 1 := ⟨k - 1, by omega⟩
  unfold foolscapref04_Compare.f compareP
  rw [ref_Right_eq, Option.bind_some]
  cases h : rightB K n s b c with
  | false =>
    simp only [foolscapref04_Compare.j0]
    simp
  | true =>
    rw [if_pos rfl, ref_Right_eq, Option.bind_some]
    cases h' : rightB K' n' s' b' c' with
    | false =>
      simp only [foolscapref04_Compare.j0]
      simp
    | true =>
      have hl := right_len h
      have hl' := right_len h'
      have g := rightB_cases h
      have g' := rightB_cases h'
      clear h h'
      have hB := ref_Bytes_eq k (by omega) (foldL s) (foldL s') (by rw [foldL_length]; omega) (by rw [foldL_length]; omega)
      have hF := ref_Fold_eq s (by omega)
      have hF' := ref_Fold_eq s' (by omega)
      rcases g with ⟨rfl, rfl, rfl, rfl, rfl⟩ | ⟨rfl, hf, rfl, rfl, rfl⟩ | ⟨rfl, hl, rfl, rfl, rfl⟩ | ⟨rfl, rfl, rfl, rfl⟩ | ⟨rfl, h1, h7, rfl, rfl, rfl⟩
      · rcases g' with ⟨rfl, rfl, rfl, rfl, rfl⟩ | ⟨rfl, hf', rfl, rfl, rfl⟩ | ⟨rfl, hl', rfl, rfl, rfl⟩ | ⟨rfl, rfl, rfl, rfl⟩ | ⟨rfl, h1', h7', rfl, rfl, rfl⟩
        all_goals simp [foolscapref04_Compare.j0, foolscapref04_as.f, hF, hF', hB, foolscapref04_sign.f, cmpZ, rankZ]
        all_goals first | done | (cases b <;> rfl) | (cases b' <;> rfl) | (cases b <;> cases b' <;> rfl) | (split <;> (try split) <;> rfl)
      · rcases g' with ⟨rfl, rfl, rfl, rfl, rfl⟩ | ⟨rfl, hf', rfl, rfl, rfl⟩ | ⟨rfl, hl', rfl, rfl, rfl⟩ | ⟨rfl, rfl, rfl, rfl⟩ | ⟨rfl, h1', h7', rfl, rfl, rfl⟩
        all_goals simp [foolscapref04_Compare.j0, foolscapref04_as.f, hF, hF', hB, foolscapref04_sign.f, cmpZ, rankZ]
        all_goals first | done | (cases b <;> rfl) | (cases b' <;> rfl) | (cases b <;> cases b' <;> rfl) | (split <;> (try split) <;> rfl)
      · rcases g' with ⟨rfl, rfl, rfl, rfl, rfl⟩ | ⟨rfl, hf', rfl, rfl, rfl⟩ | ⟨rfl, hl', rfl, rfl, rfl⟩ | ⟨rfl, rfl, rfl, rfl⟩ | ⟨rfl, h1', h7', rfl, rfl, rfl⟩
        all_goals simp [foolscapref04_Compare.j0, foolscapref04_as.f, hF, hF', hB, foolscapref04_sign.f, cmpZ, rankZ]
        all_goals first | done | (cases b <;> rfl) | (cases b' <;> rfl) | (cases b <;> cases b' <;> rfl) | (split <;> (try split) <;> rfl)
      · rcases g' with ⟨rfl, rfl, rfl, rfl, rfl⟩ | ⟨rfl, hf', rfl, rfl, rfl⟩ | ⟨rfl, hl', rfl, rfl, rfl⟩ | ⟨rfl, rfl, rfl, rfl⟩ | ⟨rfl, h1', h7', rfl, rfl, rfl⟩
        all_goals simp [foolscapref04_Compare.j0, foolscapref04_as.f, hF, hF', hB, foolscapref04_sign.f, cmpZ, rankZ]
        all_goals first | done | (cases b <;> rfl) | (cases b' <;> rfl) | (cases b <;> cases b' <;> rfl) | (split <;> (try split) <;> rfl)
      · rcases g' with ⟨rfl, rfl, rfl, rfl, rfl⟩ | ⟨rfl, hf', rfl, rfl, rfl⟩ | ⟨rfl, hl', rfl, rfl, rfl⟩ | ⟨rfl, rfl, rfl, rfl⟩ | ⟨rfl, h1', h7', rfl, rfl, rfl⟩
        all_goals simp [foolscapref04_Compare.j0, foolscapref04_as.f, hF, hF', hB, foolscapref04_sign.f, cmpZ, rankZ]
        all_goals first | done | (cases b <;> rfl) | (cases b' <;> rfl) | (cases b <;> cases b' <;> rfl) | (split <;> (try split) <;> rfl)
end Go.Proofs.YtngdggmlfoogcaaGreatDoor.Pr
namespace Go.Proofs.YtngdggmlfoogcaaGreatDoor.Pr
set_option linter.unusedVariables false
set_option linter.unusedSimpArgs false
open Go.RowKit Go.Proofs.YtngdggmlfoogcaaGreatDoorW.PrintWords Go.Proofs.YtngdggmlfoogcaaGreatDoorW.PrintMore
end Go.Proofs.YtngdggmlfoogcaaGreatDoor.Pr
end
section
namespace Go.Proofs.YtngdggmlfoogcaaGreatDoor.Pr
set_option linter.unusedVariables false
set_option linter.unusedSimpArgs false
open Go.RowKit Go.Proofs.YtngdggmlfoogcaaGreatDoorW.PrintWords Go.Proofs.YtngdggmlfoogcaaGreatDoorW.PrintMore
section
variable {α β : Type} (row : α → Bool) (fit : α → β → Bool)
def gM : List α → List β → Prop
  | [], s => s = []
  | p :: ps, s => if row p = true then ∃ k, gM ps (s.drop k) else ∃ c s', s = c :: s' ∧ fit p c = true ∧ gM ps s'
variable {row fit}
theorem gM_row {p : α} {ps : List α} {s : List β} (h : row p = true) : gM row fit (p :: ps) s ↔ ∃ k, gM row fit ps (s.drop k) := by
  show (if row p = true then _ else _) ↔ _
  rw [if_pos h]
theorem gM_one {p : α} {ps : List α} {s : List β} (h : row p = false) : gM row fit (p :: ps) s ↔ ∃ c s', s = c :: s' ∧ fit p c = true ∧ gM row fit ps s' := by
  show (if row p = true then _ else _) ↔ _
  rw [if_neg (by rw [h]; decide)]
inductive GFront (row : α → Bool) (fit : α → β → Bool) : List α → List β → Prop
  | nil : GFront row fit [] []
  | snoc {P : List α} {S : List β} {p : α} {c : β} : GFront row fit P S → row p = false → fit p c = true → GFront row fit (P ++ [p]) (S ++ [c])
theorem GFront.length {P : List α} {S : List β} (h : GFront row fit P S) : P.length = S.length := by
  induction h with
  | nil => rfl
  | snoc _ _ _ ih => simp [ih]
theorem GFront.iff {P Q : List α} {S T : List β} (h : GFront row fit P S) : gM row fit (P ++ Q) (S ++ T) ↔ gM row fit Q T := by
  induction h generalizing Q T with
  | nil => exact Iff.rfl
  | snoc h hp hf ih =>
    rw [List.append_assoc, List.append_assoc, ih]
    show gM row fit (_ :: Q) (_ :: T) ↔ _
    rw [gM_one hp]
    constructor
    · rintro ⟨c, s', e, _, hm⟩
      obtain ⟨rfl, rfl⟩ := List.cons.inj e
      exact hm
    · exact fun hm => ⟨_, _, rfl, hf, hm⟩
theorem GFront.drop {P Q : List α} {S T : List β} (h : GFront row fit P S) (hm : gM row fit (P ++ Q) T) : gM row fit Q (T.drop P.length) := by
  induction h generalizing Q T with
  | nil => exact hm
  | snoc h hp hf ih =>
    rw [List.append_assoc] at hm
    have := ih hm
    obtain ⟨c, s', e, _, hm2⟩ := (gM_one hp).1 this
    rw [List.length_append, ← List.drop_drop, e]
    exact hm2
theorem row_again {A P : List α} {B S : List β} {p : α} (h : GFront row fit A B) (hp : row p = true) : (∃ k, gM row fit (A ++ p :: P) ((B ++ S).drop k)) ↔ ∃ k, gM row fit P (S.drop k) := by
  constructor
  · rintro ⟨k, hk⟩
    obtain ⟨j, hj⟩ := (gM_row hp).1 (h.drop hk)
    refine ⟨k + j, ?_⟩
    rw [List.drop_drop, List.drop_drop, h.length] at hj
    have e : List.drop (k + (B.length + j)) (B ++ S) = List.drop (k + j) S := by
      rw [show k + (B.length + j) = B.length + (k + j) by omega, ← List.drop_drop, List.drop_left]
    rw [← e]
    simpa [Nat.add_assoc] using hj
  · rintro ⟨k, hk⟩
    exact ⟨0, h.iff.2 ((gM_row hp).2 ⟨k, hk⟩)⟩
theorem one_more {Q : List α} {T : List β} (h : ¬ gM row fit Q T) : (∃ k, gM row fit Q (T.drop k)) ↔ ∃ k, gM row fit Q (T.drop (k + 1)) := by
  constructor
  · rintro ⟨k, hk⟩
    cases k with
    | zero => exact absurd hk h
    | succ k => exact ⟨k, hk⟩
  · rintro ⟨k, hk⟩; exact ⟨_, hk⟩
theorem no_more {Q : List α} {T : List β} (h : ¬ gM row fit Q T) (hT : T = []) : ¬ ∃ k, gM row fit Q (T.drop k) := by
  subst hT
  rintro ⟨k, hk⟩
  rw [List.drop_nil] at hk
  exact h hk
theorem no_fit {P : List α} {S : List β} {p : α} (hp : row p = false) (h : ∀ c S', S = c :: S' → fit p c = false) : ¬ gM row fit (p :: P) S := by
  intro hm
  obtain ⟨c, s', rfl, hf, _⟩ := (gM_one hp).1 hm
  rw [h c s' rfl] at hf
  cases hf
end
def stepsL : List UInt8 → Bool → List (Int × Int)
  | [], false => []
  | [], true => [(0, 126)]
  | c :: r, true => (0, (c.toNat : Int)) :: stepsL r false
  | c :: r, false => if c = 126 then stepsL r true else if c = 63 ∨ c = 42 then ((c.toNat : Int), 0) :: stepsL r false else (0, (c.toNat : Int)) :: stepsL r false
abbrev CS := S66
def toC (p : Int × Int) : CS := ⟨p.1 == 63, p.1 == 42, p.2⟩
def rowC (p : CS) : Bool := p.f1
def fitC (p : CS) (c : UInt8) : Bool := p.f0 || (!p.f1 && p.f2 == (c.toNat : Int))
theorem stepsL_length : ∀ (l : List UInt8) (b : Bool), (stepsL l b).length ≤ l.length + 1
  | [], false => by simp [stepsL]
  | [], true => by simp [stepsL]
  | c :: r, true => by have := stepsL_length r false; simp only [stepsL, List.length_cons]; omega
  | c :: r, false => by
    have h1 := stepsL_length r false
    have h2 := stepsL_length r true
    simp only [stepsL]
    split
    · simp only [List.length_cons]; omega
    · split <;> (simp only [List.length_cons]; omega)
theorem u8_is (c : UInt8) (n : UInt8) : ((c.toNat : Int) = (n.toNat : Int)) = (c = n) := by
  refine propext ⟨fun h => UInt8.toNat_inj.mp (by omega), fun h => by rw [h]⟩
theorem rd_mid (p r : List Int) (x : Int) : rd (p ++ x :: r) (p.length : Int) = x := by simp [rd]
theorem numsOf_bl (l : List UInt8) : numsOf (bl l) = l.map fun c => (c.toNat : Int) := by unfold numsOf; rw [bl_data]
theorem crit_stepsB_l0 (l : List UInt8) (hl : l.length ≤ 40000000000000) : ∀ (r pre : List UInt8) (k : Nat) (pl : Bool) (acc : List CS), 2 * r.length + 2 ≤ k → l = pre ++ r → acc.length ≤ pre.length →
    crit_stepsB.l0 k acc pl (l.map fun c => (c.toNat : Int)) (l.length : Int) (pre.length : Int) = some (acc ++ (stepsL r pl).map toC) := by
  intro r
  induction r with
  | nil =>
    intro pre k pl acc hk h ha
    obtain ⟨k, rfl⟩ : ∃ m, k = m + 1 := ⟨k - 1, by omega⟩
    have hlen : l.length = pre.length := by rw [h]; simp
    simp only [crit_stepsB.l0]
    rw [if_neg (by omega)]
    cases pl with
    | true => rw [if_pos (by first | trivial | rfl), if_pos (by omega)]; rfl
    | false => rw [if_neg (by first | exact Bool.false_ne_true | exact not_false)]; simp [stepsL]
  | cons c r ih =>
    intro pre k pl acc hk h ha
    simp only [List.length_cons] at hk
    obtain ⟨k, rfl⟩ : ∃ m, k = m + 2 := ⟨k - 2, by omega⟩
    have hlen : l.length = pre.length + r.length + 1 := by rw [h]; simp; omega
    have hrd : rd (l.map fun c => (c.toNat : Int)) (pre.length : Int) = (c.toNat : Int) := by
      rw [h, List.map_append, List.map_cons]
      have := rd_mid (pre.map fun c => (c.toNat : Int)) (r.map fun c => (c.toNat : Int)) (c.toNat : Int)
      rw [List.length_map] at this
      exact this
    have hw : wrap64 ((pre.length : Int) + 1) = ((pre ++ [c]).length : Int) := by rw [wN (by omega) (by omega)]; simp
    have hn : l = (pre ++ [c]) ++ r := by rw [h]; simp
    have hacc : ∀ x : CS, (acc ++ [x]).length ≤ (pre ++ [c]).length := fun x => by simp; omega
    have hacc' : acc.length ≤ (pre ++ [c]).length := by simp; omega
    have e126 : ((c.toNat : Int) = 126) = (c = 126) := u8_is c 126
    have e63 : ((c.toNat : Int) = 63) = (c = 63) := u8_is c 63
    have e42 : ((c.toNat : Int) = 42) = (c = 42) := u8_is c 42
    simp only [crit_stepsB.l0, hrd]
    rw [if_pos (by omega), if_pos (by omega), if_pos (by rw [List.length_map]; omega)]
    cases pl with
    | true =>
      rw [if_pos (by first | trivial | rfl)]
      simp only [crit_stepsB.j1]
      rw [if_pos (by first | trivial | rfl), if_pos (by omega), hw, ih (pre ++ [c]) k false _ (by omega) hn (hacc _)]
      simp [stepsL, toC]
    | false =>
      rw [if_neg (by first | exact Bool.false_ne_true | exact not_false)]
      by_cases c1 : c = 126
      · rw [if_pos (by rw [e126]; exact c1)]
        simp only [crit_stepsB.j1]
        rw [if_neg (by first | exact Bool.false_ne_true | exact not_false), if_pos (by rw [e126]; exact c1), hw, ih (pre ++ [c]) k true _ (by omega) hn hacc']
        simp only [stepsL]
        rw [if_pos c1]
      · have n126 : ¬ (c.toNat : Int) = 126 := by rw [e126]; exact c1
        rw [if_neg n126]
        by_cases c2 : c = 63
        · rw [if_pos (by rw [e63]; exact c2)]
          simp only [crit_stepsB.j1]
          rw [if_neg (by first | exact Bool.false_ne_true | exact not_false), if_neg n126, if_pos (by omega), hw, ih (pre ++ [c]) k false _ (by omega) hn (hacc _)]
          simp only [stepsL]
          rw [if_neg c1, if_pos (Or.inl c2)]
          subst c2
          simp [toC]
        · rw [if_neg (by rw [e63]; exact c2)]
          by_cases c3 : c = 42
          · rw [show ((c.toNat : Int) != 42) = false by rw [c3]; rfl]
            simp only [crit_stepsB.j1]
            rw [if_neg (by first | exact Bool.false_ne_true | exact not_false), if_neg n126, if_pos (by omega), hw, ih (pre ++ [c]) k false _ (by omega) hn (hacc _)]
            simp only [stepsL]
            rw [if_neg c1, if_pos (Or.inr c3)]
            subst c3
            simp [toC]
          · rw [show ((c.toNat : Int) != 42) = true by rw [bne_iff_ne]; intro h; rw [e42] at h; exact c3 h]
            simp only [crit_stepsB.j1]
            rw [if_pos (by first | trivial | rfl), if_pos (by omega), hw, ih (pre ++ [c]) k false _ (by omega) hn (hacc _)]
            simp only [stepsL]
            rw [if_neg c1, if_neg (by intro h; exact h.elim c2 c3)]
            simp [toC]
theorem crit_steps_eq (k : Nat) (l : List UInt8) (hl : l.length ≤ 40000000000000) (hk : 2 * l.length + 2 ≤ k) : crit_steps.f k (bl l) = some ((stepsL (foldL l) false).map toC) := by
  unfold crit_steps.f
  rw [value_Fold_eq l (by omega), Option.bind_some, if_pos (by rw [bl_size, foldL_length]; omega), numsOf_bl]
  unfold crit_stepsB.f
  have := crit_stepsB_l0 (foldL l) (by rw [foldL_length]; exact hl) (foldL l) [] k false [] (by rw [foldL_length]; exact hk) rfl (Nat.le_refl _)
  rw [List.length_map]
  simpa using this
theorem fits_eq (p : CS) (c : UInt8) : crit_step_fits.f p.f0 p.f1 p.f2 (c.toNat : Int) = some (fitC p c) := by
  unfold crit_step_fits.f fitC
  cases p.f0 <;> cases p.f1 <;> simp
theorem rdC (p r : List CS) (x : CS) : rd_T66 (p ++ x :: r) (p.length : Int) = x := by simp [rd_T66]
theorem bt_mid (p r : List UInt8) (c : UInt8) : bt (bl (p ++ c :: r)) (p.length : Int) = (c.toNat : Int) := bt_at p r c
theorem crit_Like_B (P : List CS) (S : List UInt8) (hP : P.length ≤ 1000) (hS : S.length ≤ 1000) (W : Nat) (hW : 2003 ≤ W) : ∀ (N k : Nat) (p1 A' P' : List CS) (s1 B' S' : List UInt8),
    (B'.length + S'.length) * W + P'.length + S'.length ≤ N → 4 * N + 4 ≤ k → P = p1 ++ (A' ++ P') → S = s1 ++ (B' ++ S') → GFront rowC fitC A' B' → p1 ≠ [] →
    ∃ b, crit_Like.l0 k (bl S) P ((p1.length + A'.length : Nat) : Int) ((s1.length + B'.length : Nat) : Int) ((p1.length : Int) - 1) (s1.length : Int) = some b ∧ (b = true ↔ ∃ f, gM rowC fitC (A' ++ P') ((B' ++ S').drop f)) := by
  intro N
  induction N with
  | zero =>
    intro k p1 A' P' s1 B' S' hN hk hP' hS' hF hp
    obtain ⟨k, rfl⟩ : ∃ m, k = m + 2 := ⟨k - 2, by omega⟩
    obtain rfl : P' = [] := List.eq_nil_of_length_eq_zero (by omega)
    obtain rfl : S' = [] := List.eq_nil_of_length_eq_zero (by omega)
    refine ⟨true, ?_, fun _ => ⟨0, hF.iff.2 rfl⟩, fun _ => rfl⟩
    have hlP : P.length = p1.length + A'.length := by rw [hP']; simp
    have hlS : S.length = s1.length + B'.length := by rw [hS']; simp
    simp only [crit_Like.l0, bl_size]
    rw [if_neg (by omega), decide_eq_false (by omega)]
    simp only [crit_Like.j1]
    rw [if_neg (by first | exact Bool.false_ne_true | exact not_false)]
  | succ N ih =>
    intro k p1 A' P' s1 B' S' hN hk hP' hS' hF hp
    obtain ⟨k, rfl⟩ : ∃ m, k = m + 4 := ⟨k - 4, by omega⟩
    have hpl : 1 ≤ p1.length := by cases p1 with
      | nil => exact absurd rfl hp
      | cons _ _ => simp
    have hlP : P.length = p1.length + A'.length + P'.length := by rw [hP']; simp; omega
    have hlS : S.length = s1.length + B'.length + S'.length := by rw [hS']; simp; omega
    have hAB := hF.length
    have hgo : ∀ b, (b = true ↔ (P' = [] ∧ S' = [])) → True := fun _ _ => trivial
    -- no way on: the row before takes one more, or nothing is left
    have hback : ¬ gM rowC fitC P' S' → ∃ b, (if ((p1.length : Int) - 1) ≥ 0 then (if (s1.length : Int) < ((bl S).size : Int) then (crit_Like.l0 k (bl S) P (wrap64 (((p1.length : Int) - 1) + 1)) (wrap64 ((s1.length : Int) + 1)) ((p1.length : Int) - 1) (wrap64 ((s1.length : Int) + 1))) else (some false)) else (some false)) = some b ∧ (b = true ↔ ∃ f, gM rowC fitC (A' ++ P') ((B' ++ S').drop f)) := by
      intro hno
      have hno' : ¬ gM rowC fitC (A' ++ P') (B' ++ S') := fun h => hno (hF.iff.1 h)
      rw [if_pos (by omega), bl_size]
      rcases Classical.em (B' ++ S' = []) with hbs | hbs
      · have h0 : B'.length + S'.length = 0 := by rw [← List.length_append, hbs]; rfl
        rw [if_neg (by omega)]
        refine ⟨false, rfl, ⟨fun h => absurd h Bool.false_ne_true, fun h => ?_⟩⟩
        exact absurd h (no_more hno' hbs)
      · obtain ⟨c, R, hbs⟩ := List.exists_cons_of_ne_nil hbs
        have h0 : B'.length + S'.length = R.length + 1 := by rw [← List.length_append, hbs]; rfl
        rw [if_pos (by omega), wN (by omega) (by omega), wN (by omega) (by omega)]
        have hx : (B'.length + S'.length) * W = R.length * W + W := by rw [h0, Nat.succ_mul]
        have hN' : (([] : List UInt8).length + R.length) * W + (A' ++ P').length + R.length ≤ N := by
          rw [List.length_nil, Nat.zero_add, List.length_append]
          rw [hx] at hN
          omega
        obtain ⟨b, hb, hb2⟩ := ih k p1 [] (A' ++ P') (s1 ++ [c]) [] R hN' (by omega) (by rw [hP']; rfl) (by rw [hS', hbs]; simp) GFront.nil hp
        refine ⟨b, ?_, ?_⟩
        · rw [show ((p1.length : Int) - 1) + 1 = ((p1.length + ([] : List CS).length : Nat) : Int) by simp, show ((s1.length : Int) + 1) = (((s1 ++ [c]).length + ([] : List UInt8).length : Nat) : Int) by simp]
          rw [show (((s1 ++ [c]).length : Nat) : Int) = (((s1 ++ [c]).length + ([] : List UInt8).length : Nat) : Int) by simp] at hb
          exact hb
        · rw [hb2]
          rw [one_more (row := rowC) (fit := fitC) (Q := A' ++ P') (T := B' ++ S') hno', hbs]
          simp only [List.nil_append, List.drop_succ_cons]
    cases P' with
    | nil =>
      cases S' with
      | nil =>
        refine ⟨true, ?_, fun _ => ⟨0, hF.iff.2 rfl⟩, fun _ => rfl⟩
        simp only [List.length_nil] at hlP hlS
        simp only [crit_Like.l0, bl_size]
        rw [if_neg (by omega), decide_eq_false (by omega)]
        simp only [crit_Like.j1]
        rw [if_neg (by first | exact Bool.false_ne_true | exact not_false)]
      | cons c S'' =>
        simp only [List.length_nil, List.length_cons] at hlP hlS
        obtain ⟨b, hb, hb2⟩ := hback (fun h => by cases h)
        refine ⟨b, ?_, hb2⟩
        simp only [crit_Like.l0, bl_size]
        rw [if_pos (by omega)]
        simp only [crit_Like.j1]
        rw [if_pos (by first | trivial | rfl), if_neg (by omega)]
        simp only [crit_Like.j2]
        rw [if_neg (by first | exact Bool.false_ne_true | exact not_false), if_neg (by omega)]
        simp only [crit_Like.j3]
        rw [if_neg (by first | exact Bool.false_ne_true | exact not_false)]
        exact hb
    | cons p P'' =>
      simp only [List.length_cons] at hlP
      have hrd : rd_T66 P ((p1.length + A'.length : Nat) : Int) = p := by
        rw [hP', ← List.append_assoc, ← List.length_append]
        exact rdC _ _ _
      have hstart : crit_Like.l0 (k + 4) (bl S) P ((p1.length + A'.length : Nat) : Int) ((s1.length + B'.length : Nat) : Int) ((p1.length : Int) - 1) (s1.length : Int) = crit_Like.j2 (k + 2) (bl S) P ((p1.length + A'.length : Nat) : Int) ((s1.length + B'.length : Nat) : Int) ((p1.length : Int) - 1) (s1.length : Int) p.f1 := by
        have hj1 : crit_Like.j1 (k + 3) (bl S) P ((p1.length + A'.length : Nat) : Int) ((s1.length + B'.length : Nat) : Int) ((p1.length : Int) - 1) (s1.length : Int) true = crit_Like.j2 (k + 2) (bl S) P ((p1.length + A'.length : Nat) : Int) ((s1.length + B'.length : Nat) : Int) ((p1.length : Int) - 1) (s1.length : Int) p.f1 := by
          simp only [crit_Like.j1]
          rw [if_pos (by first | trivial | rfl), if_pos (by omega), if_pos (by omega), hrd]
        rw [← hj1]
        simp only [crit_Like.l0, bl_size]
        by_cases h1 : ((s1.length + B'.length : Nat) : Int) < (S.length : Int)
        · rw [if_pos h1]
        · rw [if_neg h1, decide_eq_true (by omega)]
      rw [hstart]
      simp only [crit_Like.j2]
      cases hrow : p.f1 with
      | true =>
        rw [if_pos (by first | trivial | rfl)]
        have hN' : (([] : List UInt8).length + S'.length) * W + P''.length + S'.length ≤ N := by
          simp only [List.length_nil, List.length_cons] at hN ⊢
          have : (0 + S'.length) * W ≤ (B'.length + S'.length) * W := Nat.mul_le_mul_right _ (by omega)
          omega
        obtain ⟨b, hb, hb2⟩ := ih (k + 1) (p1 ++ A' ++ [p]) [] P'' (s1 ++ B') [] S' hN' (by omega) (by rw [hP']; simp) (by rw [hS']; simp) GFront.nil (by simp)
        refine ⟨b, ?_, ?_⟩
        · rw [wN (by omega) (by omega)]
          have e1 : (((p1 ++ A' ++ [p]).length + ([] : List CS).length : Nat) : Int) = ((p1.length + A'.length : Nat) : Int) + 1 := by simp; omega
          have e2 : (((s1 ++ B').length + ([] : List UInt8).length : Nat) : Int) = ((s1.length + B'.length : Nat) : Int) := by simp
          have e3 : (((p1 ++ A' ++ [p]).length : Nat) : Int) - 1 = ((p1.length + A'.length : Nat) : Int) := by simp; omega
          have e4 : (((s1 ++ B').length : Nat) : Int) = ((s1.length + B'.length : Nat) : Int) := by simp
          rw [e1, e2, e3, e4] at hb
          exact hb
        · rw [hb2, row_again hF (show rowC p = true from hrow)]
          simp only [List.nil_append]
      | false =>
        rw [if_neg (by first | exact Bool.false_ne_true | exact not_false), if_pos (by omega)]
        cases S' with
        | nil =>
          simp only [List.length_nil] at hlS
          obtain ⟨b, hb, hb2⟩ := hback (no_fit (show rowC p = false from hrow) (fun c S'' h => by cases h))
          refine ⟨b, ?_, hb2⟩
          rw [bl_size, if_neg (by omega)]
          simp only [crit_Like.j3]
          rw [if_neg (by first | exact Bool.false_ne_true | exact not_false)]
          exact hb
        | cons c S'' =>
          simp only [List.length_cons] at hlS
          have hbt : bt (bl S) ((s1.length + B'.length : Nat) : Int) = (c.toNat : Int) := by
            rw [hS', ← List.append_assoc, ← List.length_append]
            exact bt_mid _ _ _
          rw [bl_size, if_pos (by omega), if_pos (by omega), if_pos (by omega), hrd, hbt, fits_eq, Option.bind_some]
          simp only [crit_Like.j3]
          cases hfit : fitC p c with
          | true =>
            rw [if_pos (by first | trivial | rfl)]
            have hN' : ((B' ++ [c]).length + S''.length) * W + P''.length + S''.length ≤ N := by
              have e : (B' ++ [c]).length + S''.length = B'.length + (S''.length + 1) := by rw [List.length_append, List.length_singleton]; omega
              rw [e]
              simp only [List.length_cons] at hN
              omega
            obtain ⟨b, hb, hb2⟩ := ih k p1 (A' ++ [p]) P'' s1 (B' ++ [c]) S'' hN' (by omega) (by rw [hP']; simp) (by rw [hS']; simp) (GFront.snoc hF (show rowC p = false from hrow) hfit) hp
            refine ⟨b, ?_, ?_⟩
            · rw [wN (by omega) (by omega), wN (by omega) (by omega)]
              have e1 : ((p1.length + (A' ++ [p]).length : Nat) : Int) = ((p1.length + A'.length : Nat) : Int) + 1 := by simp; omega
              have e2 : ((s1.length + (B' ++ [c]).length : Nat) : Int) = ((s1.length + B'.length : Nat) : Int) + 1 := by simp; omega
              rw [e1, e2] at hb
              exact hb
            · rw [hb2]
              simp only [List.append_assoc, List.cons_append, List.nil_append]
          | false =>
            rw [if_neg (by first | exact Bool.false_ne_true | exact not_false)]
            obtain ⟨b, hb, hb2⟩ := hback (no_fit (show rowC p = false from hrow) (fun c' S3 h => by obtain ⟨rfl, rfl⟩ := List.cons.inj h; exact hfit))
            exact ⟨b, hb, hb2⟩
theorem crit_Like_A (P : List CS) (S : List UInt8) (hP : P.length ≤ 1000) (hS : S.length ≤ 1000) : ∀ (N k : Nat) (A' P' : List CS) (B' S' : List UInt8),
    P'.length + S'.length ≤ N → 4 * N + 8028020 ≤ k → P = A' ++ P' → S = B' ++ S' → GFront rowC fitC A' B' →
    ∃ b, crit_Like.l0 k (bl S) P (A'.length : Int) (B'.length : Int) (-1) 0 = some b ∧ (b = true ↔ gM rowC fitC P' S') := by
  intro N
  induction N with
  | zero =>
    intro k A' P' B' S' hN hk hP' hS' hF
    obtain ⟨k, rfl⟩ : ∃ m, k = m + 2 := ⟨k - 2, by omega⟩
    obtain rfl : P' = [] := List.eq_nil_of_length_eq_zero (by omega)
    obtain rfl : S' = [] := List.eq_nil_of_length_eq_zero (by omega)
    refine ⟨true, ?_, fun _ => rfl, fun _ => rfl⟩
    have hlP : P.length = A'.length := by rw [hP']; simp
    have hlS : S.length = B'.length := by rw [hS']; simp
    simp only [crit_Like.l0, bl_size]
    rw [if_neg (by omega), decide_eq_false (by omega)]
    simp only [crit_Like.j1]
    rw [if_neg (by first | exact Bool.false_ne_true | exact not_false)]
  | succ N ih =>
    intro k A' P' B' S' hN hk hP' hS' hF
    obtain ⟨k, rfl⟩ : ∃ m, k = m + 4 := ⟨k - 4, by omega⟩
    have hlP : P.length = A'.length + P'.length := by rw [hP']; simp
    have hlS : S.length = B'.length + S'.length := by rw [hS']; simp
    cases P' with
    | nil =>
      cases S' with
      | nil =>
        refine ⟨true, ?_, fun _ => rfl, fun _ => rfl⟩
        simp only [List.length_nil] at hlP hlS
        simp only [crit_Like.l0, bl_size]
        rw [if_neg (by omega), decide_eq_false (by omega)]
        simp only [crit_Like.j1]
        rw [if_neg (by first | exact Bool.false_ne_true | exact not_false)]
      | cons c S'' =>
        simp only [List.length_nil, List.length_cons] at hlP hlS
        refine ⟨false, ?_, fun h => absurd h Bool.false_ne_true, fun h => by cases h⟩
        simp only [crit_Like.l0, bl_size]
        rw [if_pos (by omega)]
        simp only [crit_Like.j1]
        rw [if_pos (by first | trivial | rfl), if_neg (by omega)]
        simp only [crit_Like.j2]
        rw [if_neg (by first | exact Bool.false_ne_true | exact not_false), if_neg (by omega)]
        simp only [crit_Like.j3]
        rw [if_neg (by first | exact Bool.false_ne_true | exact not_false), if_neg (by decide)]
    | cons p P'' =>
      simp only [List.length_cons] at hlP
      have hrd : rd_T66 P (A'.length : Int) = p := by
        rw [hP']
        exact rdC _ _ _
      have hstart : crit_Like.l0 (k + 4) (bl S) P (A'.length : Int) (B'.length : Int) (-1) 0 = crit_Like.j2 (k + 2) (bl S) P (A'.length : Int) (B'.length : Int) (-1) 0 p.f1 := by
        have hj1 : crit_Like.j1 (k + 3) (bl S) P (A'.length : Int) (B'.length : Int) (-1) 0 true = crit_Like.j2 (k + 2) (bl S) P (A'.length : Int) (B'.length : Int) (-1) 0 p.f1 := by
          simp only [crit_Like.j1]
          rw [if_pos (by first | trivial | rfl), if_pos (by omega), if_pos (by omega), hrd]
        rw [← hj1]
        simp only [crit_Like.l0, bl_size]
        by_cases h1 : (B'.length : Int) < (S.length : Int)
        · rw [if_pos h1]
        · rw [if_neg h1, decide_eq_true (by omega)]
      rw [hstart]
      simp only [crit_Like.j2]
      cases hrow : p.f1 with
      | true =>
        rw [if_pos (by first | trivial | rfl)]
        obtain ⟨b, hb, hb2⟩ := crit_Like_B P S hP hS 2003 (by omega) 2007003 (k + 1) (A' ++ [p]) [] P'' B' [] S' (by
            rw [List.length_nil]
            omega) (by omega) (by rw [hP']; simp) (by rw [hS']; simp) GFront.nil (by simp)
        refine ⟨b, ?_, ?_⟩
        · rw [wN (by omega) (by omega)]
          have e1 : (((A' ++ [p]).length + ([] : List CS).length : Nat) : Int) = (A'.length : Int) + 1 := by simp
          have e2 : ((B'.length + ([] : List UInt8).length : Nat) : Int) = (B'.length : Int) := by simp
          have e3 : (((A' ++ [p]).length : Nat) : Int) - 1 = (A'.length : Int) := by simp
          rw [e1, e2, e3] at hb
          exact hb
        · rw [hb2, gM_row (show rowC p = true from hrow)]
          simp only [List.nil_append]
      | false =>
        rw [if_neg (by first | exact Bool.false_ne_true | exact not_false), if_pos (by omega)]
        cases S' with
        | nil =>
          simp only [List.length_nil] at hlS
          refine ⟨false, ?_, fun h => absurd h Bool.false_ne_true, fun h => absurd h (no_fit (show rowC p = false from hrow) (fun c S'' h => by cases h))⟩
          rw [bl_size, if_neg (by omega)]
          simp only [crit_Like.j3]
          rw [if_neg (by first | exact Bool.false_ne_true | exact not_false), if_neg (by decide)]
        | cons c S'' =>
          simp only [List.length_cons] at hlS
          have hbt : bt (bl S) (B'.length : Int) = (c.toNat : Int) := by
            rw [hS']
            exact bt_mid _ _ _
          rw [bl_size, if_pos (by omega), if_pos (by omega), if_pos (by omega), hrd, hbt, fits_eq, Option.bind_some]
          simp only [crit_Like.j3]
          cases hfit : fitC p c with
          | true =>
            rw [if_pos (by first | trivial | rfl)]
            obtain ⟨b, hb, hb2⟩ := ih k (A' ++ [p]) P'' (B' ++ [c]) S'' (by simp only [List.length_cons] at hN; omega) (by omega) (by rw [hP']; simp) (by rw [hS']; simp) (GFront.snoc hF (show rowC p = false from hrow) hfit)
            refine ⟨b, ?_, ?_⟩
            · rw [wN (by omega) (by omega), wN (by omega) (by omega)]
              have e1 : (((A' ++ [p]).length : Nat) : Int) = (A'.length : Int) + 1 := by simp
              have e2 : (((B' ++ [c]).length : Nat) : Int) = (B'.length : Int) + 1 := by simp
              rw [e1, e2] at hb
              exact hb
            · rw [hb2, gM_one (show rowC p = false from hrow)]
              exact ⟨fun h => ⟨c, S'', rfl, hfit, h⟩, fun ⟨c', s', e, _, h⟩ => by obtain ⟨rfl, rfl⟩ := List.cons.inj e; exact h⟩
          | false =>
            rw [if_neg (by first | exact Bool.false_ne_true | exact not_false), if_neg (by decide)]
            exact ⟨false, rfl, fun h => absurd h Bool.false_ne_true, fun h => absurd h (no_fit (show rowC p = false from hrow) (fun c' S3 h => by obtain ⟨rfl, rfl⟩ := List.cons.inj h; exact hfit))⟩
def likeP (p s : List UInt8) : Prop := gM rowC fitC ((stepsL (foldL p) false).map toC) (foldL s)
theorem crit_Like_eq (k : Nat) (hk : 8100000 ≤ k) (p s : List UInt8) (hp : p.length ≤ 900) (hs : s.length ≤ 900) : ∃ b, crit_Like.f k (bl p) (bl s) = some b ∧ (b = true ↔ likeP p s) := by
  unfold crit_Like.f likeP
  have hl := stepsL_length (foldL p) false
  rw [foldL_length] at hl
  rw [crit_steps_eq k p (by omega) (by omega), Option.bind_some, value_Fold_eq s (by omega), Option.bind_some]
  exact crit_Like_A _ (foldL s) (by rw [List.length_map]; omega) (by rw [foldL_length]; omega) 1901 k [] _ [] _ (by rw [List.length_map, foldL_length]; omega) (by omega) rfl rfl GFront.nil
end Go.Proofs.YtngdggmlfoogcaaGreatDoor.Pr
end
section
namespace Go.Proofs.YtngdggmlfoogcaaGreatDoor.Pr
set_option linter.unusedVariables false
set_option linter.unusedSimpArgs false
open Go.RowKit Go.Proofs.YtngdggmlfoogcaaGreatDoorW.PrintWords Go.Proofs.YtngdggmlfoogcaaGreatDoorW.PrintMore
noncomputable def likeB (p s : List UInt8) : Bool := @decide (likeP p s) (Classical.propDecidable _)
theorem likeB_iff (p s : List UInt8) : (likeB p s = true) = likeP p s := by
  unfold likeB
  exact propext (@decide_eq_true_iff _ (Classical.propDecidable _))
theorem crit_Like_B_eq (k : Nat) (hk : 8100000 ≤ k) (p s : List UInt8) (hp : p.length ≤ 900) (hs : s.length ≤ 900) : crit_Like.f k (bl p) (bl s) = some (likeB p s) := by
  obtain ⟨b, h, hb⟩ := crit_Like_eq k hk p s hp hs
  rw [h]
  congr 1
  rw [Bool.eq_iff_iff, hb, likeB_iff]
def signP (l : List UInt8) : List UInt8 :=
  if Lib.hasPrefix l [60, 62] = true then [60, 62] else if Lib.hasPrefix l [60, 61] = true then [60, 61] else if Lib.hasPrefix l [62, 61] = true then [62, 61]
  else if Lib.hasPrefix l [61] = true then [61] else if Lib.hasPrefix l [60] = true then [60] else if Lib.hasPrefix l [62] = true then [62] else []
theorem hp_eq (a : ByteArray) (l m : List UInt8) (h : a = bl m) : strings_HasPrefix.f (bl l) a = some (Lib.hasPrefix l m) := by
  subst h
  unfold strings_HasPrefix.f
  rw [bl_data, bl_data]
theorem crit_sign_eq (l : List UInt8) : crit_sign.f (bl l) = some (bl (signP l)) := by
  unfold crit_sign.f signP
  simp only [signFrom, sgI]
  rw [hp_eq sg0 l [60, 62] rfl, hp_eq sg1 l [60, 61] rfl, hp_eq sg2 l [62, 61] rfl, hp_eq sg3 l [61] rfl, hp_eq sg4 l [60] rfl, hp_eq sg5 l [62] rfl]
  simp only [Option.bind_some]
  split
  · rfl
  · split
    · rfl
    · split
      · rfl
      · split
        · rfl
        · split
          · rfl
          · split <;> rfl
def signB (l : List UInt8) : Bool := l == [61] || l == [60, 62] || l == [60] || l == [62] || l == [60, 61] || l == [62, 61]
theorem sign_own (l : List UInt8) : (l ≠ [] ∧ signP l = l) ↔ signB l = true := by
  constructor
  · rintro ⟨h0, h⟩
    unfold signP at h
    repeat' split at h
    all_goals first | (rw [← h]; rfl) | exact absurd h.symm h0
  · intro h
    unfold signB at h
    simp only [Bool.or_eq_true, beq_iff_eq] at h
    rcases h with ((((rfl | rfl) | rfl) | rfl) | rfl) | rfl <;> exact ⟨by simp, by decide⟩
theorem crit_Check_eq (g : List UInt8) (K n : Int) (s : List UInt8) (b : Bool) (c : Int) : crit_Check.f (bl g) K n (bl s) b c = some (if signB g = true ∧ rightB K n s b c = true then 0 else 2) := by
  unfold crit_Check.f
  rw [crit_sign_eq, value_Check_eq]
  simp only [Option.bind_some, bl_toList]
  have h := sign_own g
  by_cases h0 : g = []
  · rw [if_pos h0, if_neg (fun hh => (h.2 hh.1).1 h0)]
  · rw [if_neg h0]
    by_cases h1 : signP g = g
    · rw [if_pos h1]
      have := h.1 ⟨h0, h1⟩
      by_cases h2 : rightB K n s b c = true
      · rw [if_pos h2, if_pos ⟨this, h2⟩]
      · rw [if_neg h2, if_neg (fun hh => h2 hh.2)]
    · rw [if_neg h1, if_neg (fun hh => h1 (h.2 hh.1).2)]
noncomputable def equalB (K n : Int) (s : List UInt8) (b : Bool) (c : Int) (K' n' : Int) (s' : List UInt8) (b' : Bool) (c' : Int) : Bool :=
  if K = K' then (if K = 2 then likeB s s' else n == n' && (s == s' && (b == b' && c == c'))) else false
theorem crit_equal_eq (k : Nat) (hk : 8100000 ≤ k) (K n : Int) (s : List UInt8) (b : Bool) (c : Int) (K' n' : Int) (s' : List UInt8) (b' : Bool) (c' : Int) (hs : s.length ≤ 255) (hs' : s'.length ≤ 255) :
    crit_equal.f k K n (bl s) b c K' n' (bl s') b' c' = some (equalB K n s b c K' n' s' b' c') := by
  unfold crit_equal.f equalB
  rw [crit_Like_B_eq k hk s s' (by omega) (by omega)]
  simp only [Option.bind_some, bl_toList]
  by_cases h : K = K'
  · rw [if_pos h, if_pos h]
    by_cases h2 : K = 2
    · rw [if_pos h2, if_pos h2]
    · rw [if_neg h2, if_neg h2, h]; simp
  · rw [if_neg h, if_neg h]
noncomputable def fitsB (g : List UInt8) (K n : Int) (s : List UInt8) (b : Bool) (c : Int) (K' n' : Int) (s' : List UInt8) (b' : Bool) (c' : Int) : Bool :=
  if (signB g = true ∧ rightB K n s b c = true) ∧ rightB K' n' s' b' c' = true then
    (if g = [61] then equalB K n s b c K' n' s' b' c' else if g = [60, 62] then !equalB K n s b c K' n' s' b' c'
      else if K = K' ∧ K' ≠ 0 ∧ K' ≠ 4 then
        (if g = [60] then decide ((compareP K' n' s' b' c' K n s b c).1 < 0) else if g = [62] then decide ((compareP K' n' s' b' c' K n s b c).1 > 0)
          else if g = [60, 61] then decide ((compareP K' n' s' b' c' K n s b c).1 ≤ 0) else decide ((compareP K' n' s' b' c' K n s b c).1 ≥ 0))
      else false)
  else false
theorem crit_Fits_eq (k : Nat) (hk : 8100010 ≤ k) (g : List UInt8) (K n : Int) (s : List UInt8) (b : Bool) (c : Int) (K' n' : Int) (s' : List UInt8) (b' : Bool) (c' : Int) :
    crit_Fits.f k (bl g) K n (bl s) b c K' n' (bl s') b' c' = some (fitsB g K n s b c K' n' s' b' c') := by
  obtain ⟨k, rfl⟩ : ∃ m, k = m + 2 := ⟨k - 2, by omega⟩
  have hno : ∀ k, crit_Fits.j0 (k + 1) true (bl g) K n (bl s) b c K' n' (bl s') b' c' = some false := by
    intro k
    simp only [crit_Fits.j0]
    rw [if_pos (by first | trivial | rfl)]
  unfold crit_Fits.f fitsB
  rw [crit_Check_eq, Option.bind_some]
  by_cases h1 : signB g = true ∧ rightB K n s b c = true
  · rw [if_pos h1, if_pos rfl, value_Check_eq, Option.bind_some]
    by_cases h2 : rightB K' n' s' b' c' = true
    · rw [if_pos h2, if_pos ⟨h1, h2⟩, show ((0 : Int) != 0) = false from rfl]
      simp only [crit_Fits.j0, bl_toList]
      rw [if_neg (by first | exact Bool.false_ne_true | exact not_false), crit_equal_eq (k + 1) (by omega) _ _ _ _ _ _ _ _ _ _ (right_len h1.2) (right_len h2)]
      simp only [Option.bind_some]
      by_cases g1 : g = [61]
      · rw [if_pos g1, if_pos g1]
      rw [if_neg g1, if_neg g1]
      by_cases g2 : g = [60, 62]
      · rw [if_pos g2, if_pos g2]
      rw [if_neg g2, if_neg g2]
      have hj1 : crit_Fits.j1 (k + 1) true (bl g) K n (bl s) b c K' n' (bl s') b' c' = some false := by
        simp only [crit_Fits.j1]
        rw [if_pos (by first | trivial | rfl)]
      have hj0 : crit_Fits.j1 (k + 1) false (bl g) K n (bl s) b c K' n' (bl s') b' c' = some (if g = [60] then decide ((compareP K' n' s' b' c' K n s b c).1 < 0) else if g = [62] then decide ((compareP K' n' s' b' c' K n s b c).1 > 0)
          else if g = [60, 61] then decide ((compareP K' n' s' b' c' K n s b c).1 ≤ 0) else decide ((compareP K' n' s' b' c' K n s b c).1 ≥ 0)) := by
        simp only [crit_Fits.j1, bl_toList]
        rw [if_neg (by first | exact Bool.false_ne_true | exact not_false), value_Compare_eq k (by omega)]
        simp only [Option.bind_some]
        split
        · rfl
        · split
          · rfl
          · split <;> rfl
      by_cases h3 : K = K'
      · rw [if_pos h3]
        by_cases h4 : K' = 0
        · rw [if_pos h4, hj1, if_neg (fun hh => hh.2.1 h4)]
        · rw [if_neg h4]
          by_cases h5 : K' = 4
          · rw [show (K' == 4) = true from beq_iff_eq.mpr h5, hj1, if_neg (fun hh => hh.2.2 h5)]
          · rw [show (K' == 4) = false from beq_eq_false_iff_ne.mpr h5, hj0, if_pos (show K = K' ∧ K' ≠ 0 ∧ K' ≠ 4 from ⟨h3, h4, h5⟩)]
      · rw [if_neg h3, hj1, if_neg (fun hh => h3 hh.1)]
    · rw [if_neg h2, if_neg (fun hh => h2 hh.2)]
      exact hno _
  · rw [if_neg h1, if_neg (by decide), if_neg (fun hh => h1 hh.1)]
    exact hno _
end Go.Proofs.YtngdggmlfoogcaaGreatDoor.Pr
end
section
namespace Go.Proofs.YtngdggmlfoogcaaGreatDoor.Pr
set_option linter.unusedVariables false
set_option linter.unusedSimpArgs false
open Go.RowKit Go.Proofs.YtngdggmlfoogcaaGreatDoorW.PrintWords Go.Proofs.YtngdggmlfoogcaaGreatDoorW.PrintMore
abbrev RS := S92
def toR (p : Int × Int) : RS := ⟨p.1, p.2⟩
theorem ref_steps_l0 (l : List UInt8) (hl : l.length ≤ 40000000000000) : ∀ (n : Nat) (r pre : List UInt8) (k : Nat) (acc : List RS), r.length ≤ n → 2 * r.length + 1 ≤ k → l = pre ++ r → acc.length ≤ pre.length →
    foolscapref13_steps.l0 k (bl l) acc (pre.length : Int) = some (acc ++ (stepsL r false).map toR) := by
  intro n
  induction n with
  | zero =>
    intro r pre k acc hn hk h ha
    obtain rfl : r = [] := List.eq_nil_of_length_eq_zero (by omega)
    obtain ⟨k, rfl⟩ : ∃ m, k = m + 1 := ⟨k - 1, by omega⟩
    simp only [foolscapref13_steps.l0, bl_size]
    rw [if_neg (by rw [h]; simp)]
    simp [stepsL]
  | succ n ih =>
    intro r pre k acc hn hk h ha
    obtain ⟨k, rfl⟩ : ∃ m, k = m + 1 := ⟨k - 1, by omega⟩
    cases r with
    | nil =>
      simp only [foolscapref13_steps.l0, bl_size]
      rw [if_neg (by rw [h]; simp)]
      simp [stepsL]
    | cons c r =>
      simp only [List.length_cons] at hn hk
      obtain ⟨k, rfl⟩ : ∃ m, k = m + 1 := ⟨k - 1, by omega⟩
      have hlen : l.length = pre.length + r.length + 1 := by rw [h]; simp; omega
      have hb : bt (bl l) (pre.length : Int) = (c.toNat : Int) := by rw [h]; exact bt_mid pre r c
      have ew : wrap64 ((pre.length : Int) + 1) = (pre.length : Int) + 1 := wN (by omega) (by omega)
      have hone : ∀ x : RS, foolscapref13_steps.l0 k (bl l) (acc ++ [x]) ((pre.length : Int) + 1) = some (acc ++ [x] ++ (stepsL r false).map toR) := by
        intro x
        have := ih r (pre ++ [c]) k (acc ++ [x]) (by omega) (by omega) (by rw [h]; simp) (by simp; omega)
        rw [show (((pre ++ [c]).length : Nat) : Int) = (pre.length : Int) + 1 by simp] at this
        exact this
      simp only [foolscapref13_steps.l0, bl_size]
      rw [if_pos (by omega), if_pos (by omega), hb, ew]
      have e126 : ((c.toNat : Int) = 126) ↔ c = 126 := iff_of_eq (u8_is c 126)
      have e42 : ((c.toNat : Int) = 42) ↔ c = 42 := iff_of_eq (u8_is c 42)
      have e63 : ((c.toNat : Int) = 63) ↔ c = 63 := iff_of_eq (u8_is c 63)
      have hf : foolscapref13_steps.j1 (k + 1) (bl l) acc (pre.length : Int) false = some (acc ++ (if c = 63 ∨ c = 42 then toR ((c.toNat : Int), 0) else toR (0, (c.toNat : Int))) :: (stepsL r false).map toR) := by
        simp only [foolscapref13_steps.j1, bl_size]
        rw [if_neg (by first | exact Bool.false_ne_true | exact not_false), if_pos (by omega), if_pos (by omega), hb, ew]
        by_cases c42 : c = 42
        · rw [if_pos (e42.2 c42), if_pos (by omega), hone, if_pos (Or.inr c42)]; simp [toR]
        rw [if_neg (fun hh => c42 (e42.1 hh))]
        by_cases c63 : c = 63
        · rw [if_pos (e63.2 c63), if_pos (by omega), hone, if_pos (Or.inl c63)]; simp [toR]
        rw [if_neg (fun hh => c63 (e63.1 hh)), if_pos (by omega), hone, if_neg (fun hh => hh.elim c63 c42)]
        simp [toR]
      by_cases c126 : c = 126
      · rw [if_pos (e126.2 c126)]
        cases r with
        | nil =>
          rw [show decide ((pre.length : Int) + 1 < (l.length : Int)) = false from decide_eq_false (by rw [hlen]; simp), hf, c126]
          rfl
        | cons d r =>
          simp only [List.length_cons] at hn hk hlen
          rw [show decide ((pre.length : Int) + 1 < (l.length : Int)) = true from decide_eq_true (by omega)]
          have hd : bt (bl l) ((pre.length : Int) + 1) = (d.toNat : Int) := by
            have := bt_mid (pre ++ [c]) r d
            rw [show (((pre ++ [c]).length : Nat) : Int) = (pre.length : Int) + 1 by simp] at this
            rw [h, ← this]; simp
          have := ih r (pre ++ [c, d]) k (acc ++ [toR (0, (d.toNat : Int))]) (by omega) (by omega) (by rw [h]; simp) (by simp; omega)
          rw [show (((pre ++ [c, d]).length : Nat) : Int) = (pre.length : Int) + 1 + 1 by simp; omega] at this
          simp only [foolscapref13_steps.j1, bl_size]
          rw [if_pos (by first | trivial | rfl), ew, if_pos (by omega), if_pos (by omega), if_pos (by omega), hd, wN (by omega) (by omega)]
          refine this.trans ?_
          rw [c126]
          simp [stepsL, toR]
      · rw [if_neg (fun hh => c126 (e126.1 hh)), hf]
        simp only [stepsL]
        rw [if_neg c126]
        by_cases cc : c = 63 ∨ c = 42
        · rw [if_pos cc, if_pos cc]; rfl
        · rw [if_neg cc, if_neg cc]; rfl
theorem ref_steps_eq (k : Nat) (l : List UInt8) (hl : l.length ≤ 40000000000000) (hk : 2 * l.length + 1 ≤ k) : foolscapref13_steps.f k (bl l) = some ((stepsL l false).map toR) := by
  have := ref_steps_l0 l hl l.length l [] k [] (Nat.le_refl _) hk rfl (Nat.le_refl _)
  rw [List.nil_append] at this
  exact this
noncomputable def gMB (P : List CS) (s : List UInt8) : Bool := @decide (gM rowC fitC P s) (Classical.propDecidable _)
theorem gMB_iff {P : List CS} {s : List UInt8} : gMB P s = true ↔ gM rowC fitC P s := by
  unfold gMB
  exact @decide_eq_true_iff _ (Classical.propDecidable _)
theorem gMB_eq {P Q : List CS} {s t : List UInt8} (h : gM rowC fitC P s ↔ gM rowC fitC Q t) : gMB P s = gMB Q t := by
  rw [Bool.eq_iff_iff, gMB_iff, gMB_iff, h]
theorem rdB_set (x : List Bool) (i j : Nat) (b : Bool) (hi : i < x.length) : rdOf false (x.set i b) (j : Int) = if i = j then b else rdOf false x (j : Int) := by
  unfold rdOf
  simp only [Int.toNat_natCast, List.getD_eq_getElem?_getD, List.getElem?_set]
  by_cases h : i = j
  · rw [if_pos h, if_pos h, if_pos hi]; rfl
  · rw [if_neg h, if_neg h]
def tabFrom (x : List Bool) (Q : List CS) (s : List UInt8) (n : Nat) : Prop := x.length = s.length + 1 ∧ ∀ j, n ≤ j → j ≤ s.length → rdOf false x (j : Int) = gMB Q (s.drop j)
theorem tab_set {x : List Bool} {Q : List CS} {s : List UInt8} {n : Nat} {b : Bool} (h : tabFrom x Q s (n + 1)) (hn : n ≤ s.length) (hb : b = gMB Q (s.drop n)) : tabFrom (x.set n b) Q s n := by
  refine ⟨by rw [List.length_set]; exact h.1, fun j h1 h2 => ?_⟩
  rw [rdB_set x n j b (by rw [h.1]; omega)]
  by_cases e : n = j
  · rw [if_pos e, hb, e]
  · rw [if_neg e]; exact h.2 j (by omega) h2
theorem drop_at (s : List UInt8) (n : Nat) (h : n < s.length) : ∃ c, s.drop n = c :: s.drop (n + 1) ∧ bt (bl s) (n : Int) = (c.toNat : Int) := by
  refine ⟨s[n], (List.drop_eq_getElem_cons h), ?_⟩
  have := bt_mid (s.take n) (s.drop (n + 1)) s[n]
  rw [List.length_take, Nat.min_eq_left (by omega), ← List.drop_eq_getElem_cons h, List.take_append_drop] at this
  exact this
theorem ref_like_l1 (s : List UInt8) (hs : s.length ≤ 1000) (L Q : List (Int × Int)) (i : Nat) (p : Int × Int) (hi : i < L.length) (hL : L.length ≤ 1000) (hd : L.drop i = p :: Q) (x5 : List Bool) (h5 : tabFrom x5 (Q.map toC) s 0) (F : Option Bool) (k0 : Nat) (hF : ∀ k x8, k0 ≤ k → tabFrom x8 ((p :: Q).map toC) s 0 → foolscapref13_like.l0 k (bl s) x8 (L.map toR) ((i : Int) - 1) = F) :
    ∀ (n : Nat) (k : Nat) (x8 : List Bool), n ≤ s.length + 1 → k0 + n + 1 ≤ k → tabFrom x8 ((p :: Q).map toC) s n → foolscapref13_like.l1 k (bl s) x5 (L.map toR) (i : Int) x8 ((n : Int) - 1) = F := by
  intro n
  induction n with
  | zero =>
    intro k x8 hn hk h8
    obtain ⟨k, rfl⟩ : ∃ m, k = m + 1 := ⟨k - 1, by omega⟩
    simp only [foolscapref13_like.l1]
    rw [if_neg (by omega), wN (by omega) (by omega)]
    exact hF k x8 (by omega) h8
  | succ n ih =>
    intro k x8 hn hk h8
    obtain ⟨k, rfl⟩ : ∃ m, k = m + 1 := ⟨k - 1, by omega⟩
    have hn' : n ≤ s.length := by omega
    have hrd : rd_T92 (L.map toR) (i : Int) = toR p := by
      have : L[i]? = some p := by
        have := List.getElem?_drop (xs := L) (i := i) (j := 0)
        rw [hd] at this
        simpa using this.symm
      simp [rd_T92, List.getD_eq_getElem?_getD, this]
    have hl8 : (x8.length : Int) = (s.length : Int) + 1 := by rw [h8.1]; simp
    have hl5 : (x5.length : Int) = (s.length : Int) + 1 := by rw [h5.1]; simp
    have hgo : ∀ b : Bool, b = gMB ((p :: Q).map toC) (s.drop n) → foolscapref13_like.l1 k (bl s) x5 (L.map toR) (i : Int) (x8.set n b) ((n : Int) - 1) = F := by
      intro b hb
      exact ih k (x8.set n b) (by omega) (by omega) (tab_set h8 hn' hb)
    rw [show (((n + 1 : Nat) : Int) - 1) = (n : Int) by omega]
    simp only [foolscapref13_like.l1, bl_size, List.length_map, hrd, Int.toNat_natCast]
    rw [if_pos (by omega), if_pos (by omega), if_pos (by omega), wN (a := (n : Int) - 1) (by omega) (by omega), wN (a := (n : Int) + 1) (by omega) (by omega)]
    have hx5 : ∀ j, j ≤ s.length → rdOf false x5 (j : Int) = gMB (Q.map toC) (s.drop j) := fun j hj => h5.2 j (Nat.zero_le _) hj
    have hx51 : n < s.length → rdOf false x5 ((n : Int) + 1) = gMB (Q.map toC) (s.drop (n + 1)) := fun hj => by
      have := hx5 (n + 1) (by omega)
      rw [show (((n + 1 : Nat)) : Int) = (n : Int) + 1 by omega] at this
      exact this
    have hx81 : n < s.length → rdOf false x8 ((n : Int) + 1) = gMB ((p :: Q).map toC) (s.drop (n + 1)) := fun hj => by
      have := h8.2 (n + 1) (Nat.le_refl _) (by omega)
      rw [show (((n + 1 : Nat)) : Int) = (n : Int) + 1 by omega] at this
      exact this
    have hlast : ¬ n < s.length → s.drop n = [] := fun hj => List.drop_eq_nil_of_le (by omega)
    by_cases k42 : p.1 = 42
    · have hrow : rowC (toC p) = true := by unfold rowC toC; simp [k42]
      rw [if_pos (show (toR p).f0 = 42 from k42), if_pos (by omega), if_pos (by omega), hx5 n hn']
      by_cases hq : gMB (Q.map toC) (s.drop n) = true
      · rw [if_pos hq, if_pos (by omega)]
        refine hgo true (Eq.symm (gMB_iff.2 ((gM_row hrow).2 ⟨0, ?_⟩)))
        exact gMB_iff.1 hq
      · rw [if_neg hq]
        have hq' : ¬ gM rowC fitC (Q.map toC) (s.drop n) := fun hh => hq (gMB_iff.2 hh)
        by_cases hj : n < s.length
        · rw [if_pos (by omega), if_pos (by omega), if_pos (by omega), if_pos (by omega), hx81 hj]
          refine hgo _ (gMB_eq ?_)
          rw [List.map_cons, gM_row hrow, gM_row hrow, one_more hq']
          simp only [List.drop_drop]
          constructor
          · rintro ⟨j, h⟩; exact ⟨j, by rw [show n + (j + 1) = n + 1 + j by omega]; exact h⟩
          · rintro ⟨j, h⟩; exact ⟨j, by rw [show n + 1 + j = n + (j + 1) by omega]; exact h⟩
        · rw [if_neg (by omega), if_pos (by omega)]
          refine hgo false (Eq.symm ?_)
          rw [Bool.eq_false_iff]
          intro hh
          exact no_more hq' (hlast hj) ((gM_row hrow).1 (gMB_iff.1 hh))
    · have hrow : rowC (toC p) = false := by unfold rowC toC; simp [k42]
      have hnil : ¬ n < s.length → gMB ((p :: Q).map toC) (s.drop n) = false := by
        intro hj
        rw [Bool.eq_false_iff]
        intro hh
        obtain ⟨c, s', e, _, _⟩ := (gM_one hrow).1 (gMB_iff.1 hh)
        rw [hlast hj] at e
        cases e
      rw [if_neg (show ¬ (toR p).f0 = 42 from k42)]
      by_cases k63 : p.1 = 63
      · rw [if_pos (show (toR p).f0 = 63 from k63)]
        by_cases hj : n < s.length
        · rw [if_pos (by omega), if_pos (by omega), if_pos (by omega), if_pos (by omega), if_pos (by omega), hx51 hj]
          refine hgo _ ?_
          rw [Bool.eq_iff_iff, gMB_iff, gMB_iff, List.map_cons, gM_one hrow]
          obtain ⟨c, hc, _⟩ := drop_at s n hj
          constructor
          · intro h; exact ⟨c, _, hc, by unfold fitC toC; simp [k63], h⟩
          · rintro ⟨c', s', e, _, h⟩
            rw [hc] at e
            obtain ⟨rfl, rfl⟩ := List.cons.inj e
            exact h
        · rw [if_neg (by omega), if_pos (by omega), if_pos (by omega)]
          exact hgo false (hnil hj).symm
      · rw [if_neg (show ¬ (toR p).f0 = 63 from k63)]
        by_cases hj : n < s.length
        · obtain ⟨c, hc, hbt⟩ := drop_at s n hj
          rw [if_pos (by omega), if_pos (by omega), hbt]
          by_cases hcc : (c.toNat : Int) = p.2
          · rw [if_pos (show (c.toNat : Int) = (toR p).f1 from hcc), if_pos (by omega), if_pos (by omega), if_pos (by omega), hx51 hj]
            refine hgo _ ?_
            rw [Bool.eq_iff_iff, gMB_iff, gMB_iff, List.map_cons, gM_one hrow]
            constructor
            · intro h; exact ⟨c, _, hc, by unfold fitC toC; simp [k42, hcc], h⟩
            · rintro ⟨c', s', e, _, h⟩
              rw [hc] at e
              obtain ⟨rfl, rfl⟩ := List.cons.inj e
              exact h
          · rw [if_neg (show ¬ (c.toNat : Int) = (toR p).f1 from hcc), if_pos (by omega)]
            refine hgo false (Eq.symm ?_)
            rw [Bool.eq_false_iff]
            intro hh
            obtain ⟨c', s', e, hf, _⟩ := (gM_one hrow).1 (gMB_iff.1 hh)
            rw [hc] at e
            obtain ⟨rfl, rfl⟩ := List.cons.inj e
            unfold fitC toC at hf
            simp only [Bool.or_eq_true, Bool.and_eq_true, beq_iff_eq] at hf
            rcases hf with hf | hf
            · exact k63 hf
            · exact hcc hf.2.symm
        · rw [if_neg (by omega), if_pos (by omega), if_pos (by omega)]
          exact hgo false (hnil hj).symm
theorem rep_tab (s : List UInt8) (Q : List CS) : tabFrom (List.replicate (s.length + 1) false) Q s (s.length + 1) := ⟨List.length_replicate, fun j h1 h2 => absurd h2 (by omega)⟩
theorem ref_like_l0 (s : List UInt8) (hs : s.length ≤ 1000) (L : List (Int × Int)) (hL : L.length ≤ 1000) (W : Nat) (hW : 1004 ≤ W) : ∀ (m : Nat) (k : Nat) (x5 : List Bool), m ≤ L.length → m * W + 1 ≤ k → tabFrom x5 ((L.drop m).map toC) s 0 →
    foolscapref13_like.l0 k (bl s) x5 (L.map toR) ((m : Int) - 1) = some (gMB (L.map toC) s) := by
  intro m
  induction m with
  | zero =>
    intro k x5 hm hk h5
    obtain ⟨k, rfl⟩ : ∃ j, k = j + 1 := ⟨k - 1, by omega⟩
    simp only [foolscapref13_like.l0]
    rw [if_neg (by omega), if_pos (by have := h5.1; omega)]
    have := h5.2 0 (Nat.le_refl _) (Nat.zero_le _)
    rw [List.drop_zero, List.drop_zero] at this
    rw [← this]
    rfl
  | succ m ih =>
    intro k x5 hm hk h5
    obtain ⟨k, rfl⟩ : ∃ j, k = j + 1 := ⟨k - 1, by omega⟩
    have hml : m < L.length := by omega
    have hd : L.drop m = L[m] :: L.drop (m + 1) := List.drop_eq_getElem_cons hml
    rw [Nat.succ_mul] at hk
    generalize ht : m * W = t at hk ih
    have := ref_like_l1 s hs L (L.drop (m + 1)) m L[m] hml hL hd x5 h5 (some (gMB (L.map toC) s)) (t + 1) (fun k' x8 hk' h8 => ih k' x8 (by omega) hk' (by rw [hd]; exact h8)) (s.length + 1) k (List.replicate (s.length + 1) false) (Nat.le_refl _) (by omega) (rep_tab s _)
    rw [show (((s.length + 1 : Nat) : Int) - 1) = (s.length : Int) by omega] at this
    rw [show (((m + 1 : Nat) : Int) - 1) = (m : Int) by omega]
    simp only [foolscapref13_like.l0, bl_size]
    rw [if_pos (by omega), wN (by omega) (by omega), if_pos (by omega), show ((s.length : Int) + 1).toNat = s.length + 1 by omega, if_pos (by omega)]
    exact this
theorem ref_like_eq (k : Nat) (hk : 1010000 ≤ k) (p s : List UInt8) (hp : p.length ≤ 900) (hs : s.length ≤ 900) : foolscapref13_like.f k (bl p) (bl s) = some (gMB ((stepsL p false).map toC) s) := by
  unfold foolscapref13_like.f
  have hl := stepsL_length p false
  have hn : ((s.length : Int) + 1).toNat = s.length + 1 := by omega
  simp only [bl_size]
  rw [wN (by omega) (by omega), if_pos (by omega), hn, if_pos (by omega), Option.bind_some, if_pos (by omega), if_pos (by rw [List.length_replicate]; omega), ref_steps_eq k p (by omega) (by omega), Option.bind_some, List.length_map, Int.toNat_natCast, wN (by omega) (by omega)]
  refine ref_like_l0 s (by omega) (stepsL p false) (by omega) 1004 (Nat.le_refl _) (stepsL p false).length k _ (Nat.le_refl _) ?_ ?_
  · exact Nat.le_trans (Nat.add_le_add_right (Nat.mul_le_mul_right 1004 (show (stepsL p false).length ≤ 901 by omega)) 1) (Nat.le_trans (by decide : 901 * 1004 + 1 ≤ 1010000) hk)
  · rw [List.drop_length]
    refine tab_set (rep_tab s []) (Nat.le_refl _) (Eq.symm ?_) |> fun h => ⟨h.1, fun j _ h2 => ?_⟩
    · rw [gMB_iff, List.drop_length]; rfl
    · by_cases hj : j = s.length
      · exact h.2 j (by omega) h2
      · rw [rdB_set _ _ _ _ (by rw [List.length_replicate]; omega), if_neg (fun hh => hj hh.symm)]
        have e0 : rdOf false (List.replicate (s.length + 1) false) (j : Int) = false := by
          unfold rdOf
          rw [List.getD_eq_getElem?_getD, List.getElem?_replicate]
          split <;> rfl
        rw [e0]
        symm
        rw [Bool.eq_false_iff]
        intro hh
        have : s.drop j = [] := gMB_iff.1 hh
        have := List.drop_eq_nil_iff.1 this
        omega
theorem ref_Like_eq (k : Nat) (hk : 1010000 ≤ k) (p s : List UInt8) (hp : p.length ≤ 900) (hs : s.length ≤ 900) : foolscapref13_Like.f k (bl p) (bl s) = some (likeB p s) := by
  unfold foolscapref13_Like.f
  rw [ref_Fold_eq p (by omega), Option.bind_some, ref_Fold_eq s (by omega), Option.bind_some, ref_like_eq k hk _ _ (by rw [foldL_length]; exact hp) (by rw [foldL_length]; exact hs), Option.bind_some]
  rfl
theorem ref_Sign_eq (g : List UInt8) : foolscapref13_Sign.f (bl g) = some (signB g) := by
  unfold foolscapref13_Sign.f signB
  rw [bl_toList]
  by_cases h1 : g = [61]
  · rw [if_pos h1, h1]; rfl
  rw [if_neg h1]
  by_cases h2 : g = [60, 62]
  · rw [if_pos h2, h2]; rfl
  rw [if_neg h2]
  by_cases h3 : g = [60]
  · rw [if_pos h3, h3]; rfl
  rw [if_neg h3]
  by_cases h4 : g = [62]
  · rw [if_pos h4, h4]; rfl
  rw [if_neg h4]
  by_cases h5 : g = [60, 61]
  · rw [if_pos h5, h5]; rfl
  rw [if_neg h5]
  simp [h1, h2, h3, h4, h5]
theorem ref_Crit_Right_eq (g : List UInt8) (K n : Int) (s : List UInt8) (b : Bool) (c : Int) : foolscapref13_Right.f (bl g) K n (bl s) b c = some (signB g && rightB K n s b c) := by
  unfold foolscapref13_Right.f
  rw [ref_Sign_eq, Option.bind_some]
  cases h : signB g with
  | false => rw [if_neg (by decide)]; rfl
  | true => rw [if_pos rfl, ref_Right_eq, Option.bind_some]; rfl
theorem ref_equal_eq (k : Nat) (hk : 1010000 ≤ k) (K n : Int) (s : List UInt8) (b : Bool) (c : Int) (K' n' : Int) (s' : List UInt8) (b' : Bool) (c' : Int) (hs : s.length ≤ 255) (hs' : s'.length ≤ 255) :
    foolscapref13_equal.f k K n (bl s) b c K' n' (bl s') b' c' = some (equalB K n s b c K' n' s' b' c') := by
  unfold foolscapref13_equal.f equalB
  rw [ref_Like_eq k hk s s' (by omega) (by omega)]
  simp only [Option.bind_some, bl_toList]
  by_cases h : K = K'
  · rw [if_pos h, if_pos h]
    by_cases h2 : K = 2
    · rw [if_pos h2, if_pos h2]
    · rw [if_neg h2, if_neg h2, h]; simp
  · rw [if_neg h, if_neg h]
theorem ref_so_eq (g : List UInt8) (n : Int) : foolscapref13_so.f (bl g) n = some (if g = [60] then decide (n < 0) else if g = [62] then decide (n > 0) else if g = [60, 61] then decide (n ≤ 0) else decide (n ≥ 0)) := by
  unfold foolscapref13_so.f
  rw [bl_toList]
  split
  · rfl
  · split
    · rfl
    · split <;> rfl
theorem ref_Fits_eq (k : Nat) (hk : 1010010 ≤ k) (g : List UInt8) (K n : Int) (s : List UInt8) (b : Bool) (c : Int) (K' n' : Int) (s' : List UInt8) (b' : Bool) (c' : Int) :
    foolscapref13_Fits.f k (bl g) K n (bl s) b c K' n' (bl s') b' c' = some (fitsB g K n s b c K' n' s' b' c') := by
  obtain ⟨k, rfl⟩ : ∃ m, k = m + 2 := ⟨k - 2, by omega⟩
  have hno : foolscapref13_Fits.j0 (k + 2) true (bl g) K n (bl s) b c K' n' (bl s') b' c' = some false := by
    simp only [foolscapref13_Fits.j0]
    rw [if_pos (by first | trivial | rfl)]
  unfold foolscapref13_Fits.f fitsB
  rw [ref_Crit_Right_eq, Option.bind_some]
  by_cases h1 : signB g = true ∧ rightB K n s b c = true
  · rw [if_pos (by rw [Bool.and_eq_true]; exact h1), ref_Right_eq, Option.bind_some]
    by_cases h2 : rightB K' n' s' b' c' = true
    · rw [if_pos ⟨h1, h2⟩, h2, show (!true) = false from rfl]
      simp only [foolscapref13_Fits.j0, bl_toList]
      rw [if_neg (by first | exact Bool.false_ne_true | exact not_false), ref_equal_eq (k + 1) (by omega) _ _ _ _ _ _ _ _ _ _ (right_len h1.2) (right_len h2)]
      simp only [Option.bind_some]
      by_cases g1 : g = [61]
      · rw [if_pos g1, if_pos g1]
      rw [if_neg g1, if_neg g1]
      by_cases g2 : g = [60, 62]
      · rw [if_pos g2, if_pos g2]
      rw [if_neg g2, if_neg g2]
      have hj1 : foolscapref13_Fits.j1 (k + 1) true (bl g) K n (bl s) b c K' n' (bl s') b' c' = some false := by
        simp only [foolscapref13_Fits.j1]
        rw [if_pos (by first | trivial | rfl)]
      have hj0 : foolscapref13_Fits.j1 (k + 1) false (bl g) K n (bl s) b c K' n' (bl s') b' c' = some (if g = [60] then decide ((compareP K' n' s' b' c' K n s b c).1 < 0) else if g = [62] then decide ((compareP K' n' s' b' c' K n s b c).1 > 0)
          else if g = [60, 61] then decide ((compareP K' n' s' b' c' K n s b c).1 ≤ 0) else decide ((compareP K' n' s' b' c' K n s b c).1 ≥ 0)) := by
        simp only [foolscapref13_Fits.j1]
        rw [if_neg (by first | exact Bool.false_ne_true | exact not_false), ref_Compare_eq k (by omega), Option.bind_some, ref_so_eq, Option.bind_some]
      by_cases h4 : K = 0
      · rw [if_pos h4, hj1, if_neg (fun hh => hh.2.1 (hh.1 ▸ h4))]
      · rw [if_neg h4]
        by_cases h5 : K = 4
        · rw [if_pos h5, hj1, if_neg (fun hh => hh.2.2 (hh.1 ▸ h5))]
        · rw [if_neg h5]
          by_cases h3 : K = K'
          · rw [show (K != K') = false by rw [h3]; simp, hj0, if_pos (show K = K' ∧ K' ≠ 0 ∧ K' ≠ 4 from ⟨h3, fun hh => h4 (h3.trans hh), fun hh => h5 (h3.trans hh)⟩)]
          · rw [show (K != K') = true by simp [h3], hj1, if_neg (fun hh => h3 hh.1)]
    · rw [if_neg (fun hh => h2 hh.2), show rightB K' n' s' b' c' = false from Bool.eq_false_iff.2 h2]
      exact hno
  · rw [if_neg (by rw [Bool.and_eq_true]; exact h1), if_neg (fun hh => h1 hh.1)]
    exact hno
end Go.Proofs.YtngdggmlfoogcaaGreatDoor.Pr
end
section
namespace Go.Proofs.YtngdggmlfoogcaaGreatDoor.Pr
set_option linter.unusedVariables false
set_option linter.unusedSimpArgs false
open Go.RowKit Go.Proofs.YtngdggmlfoogcaaGreatDoorW.PrintWords Go.Proofs.YtngdggmlfoogcaaGreatDoorW.PrintMore
def ofP (K n : Int) (s : List UInt8) (b : Bool) (c : Int) : List UInt8 × Int × Int × List UInt8 × Bool × Int × Int :=
  if rightB K n s b c = true then
    (if K = 2 then
      (if (readP (s.drop (signP s).length)).2.2.2.2.2 = 0 then (if signP s = [] then [61] else signP s, (readP (s.drop (signP s).length)).1, (readP (s.drop (signP s).length)).2.1, (readP (s.drop (signP s).length)).2.2.1, (readP (s.drop (signP s).length)).2.2.2.1, (readP (s.drop (signP s).length)).2.2.2.2.1, 0)
        else ([], 0, 0, [], false, 0, 2))
      else ([61], K, n, s, b, c, 0))
  else ([], 0, 0, [], false, 0, 2)
def toOf (r : List UInt8 × Int × Int × List UInt8 × Bool × Int × Int) : ByteArray × Int × Int × ByteArray × Bool × Int × Int := (bl r.1, r.2.1, r.2.2.1, bl r.2.2.2.1, r.2.2.2.2.1, r.2.2.2.2.2.1, r.2.2.2.2.2.2)
theorem ref_Of_end (k : Nat) (hk : 321 ≤ k) (K n : Int) (s : List UInt8) (b : Bool) (c : Int) (hr : rightB K n s b c = true) (hK : K = 2) (m : Nat) (hm : signP s = s.take m) (hle : m ≤ s.length) :
    foolscapref13_Of.l0 k (m : Int) 3 K n (bl s) b c = some (toOf (ofP K n s b c)) := by
  obtain ⟨k, rfl⟩ : ∃ j, k = j + 1 := ⟨k - 1, by omega⟩
  have hl := right_len hr
  have hlen : (signP s).length = m := by rw [hm, List.length_take]; omega
  simp only [foolscapref13_Of.l0]
  simp only [bl_size, bl_extract, Int.toNat_natCast, List.take_length, List.drop_zero]
  rw [if_neg (by decide)]
  unfold ofP
  rw [if_pos hr, if_pos hK, hlen]
  by_cases h0 : (m : Int) > 0
  · rw [if_pos h0, if_pos (by omega), if_pos (by omega), ref_Read_eq k (by omega) _ (by rw [List.length_drop]; omega), Option.bind_some]
    show (if (readP (s.drop m)).2.2.2.2.2 = 0 then _ else _) = _
    have hne : ¬ signP s = [] := by intro h; rw [h] at hlen; simp at hlen; omega
    by_cases h3 : (readP (s.drop m)).2.2.2.2.2 = 0
    · rw [if_pos h3, if_pos h3, if_neg hne, hm]; rfl
    · rw [if_neg h3, if_neg h3]; rfl
  · rw [if_neg h0, if_pos (by omega), if_pos (by omega), ref_Read_eq k (by omega) _ (by rw [List.length_drop]; omega), Option.bind_some]
    show (if (readP (s.drop m)).2.2.2.2.2 = 0 then _ else _) = _
    have he : signP s = [] := List.eq_nil_of_length_eq_zero (by omega)
    by_cases h3 : (readP (s.drop m)).2.2.2.2.2 = 0
    · rw [if_pos h3, if_pos h3, if_pos he]; rfl
    · rw [if_neg h3, if_neg h3]; rfl
theorem signP_two (a b : UInt8) (r : List UInt8) : signP (a :: b :: r) = if signB [a, b] = true then [a, b] else if signB [a] = true then [a] else [] := by
  unfold signP signB Lib.hasPrefix
  simp only [List.isPrefixOf, Bool.and_true, Bool.and_eq_true, beq_iff_eq, Bool.or_eq_true, List.cons.injEq, and_true, List.cons_ne_nil, and_false, false_or, or_false, reduceCtorEq]
  by_cases a1 : a = 60
  · subst a1
    by_cases b1 : b = 62
    · subst b1; rfl
    · by_cases b2 : b = 61
      · subst b2; rfl
      · have e1 : ¬ 62 = b := fun h => b1 h.symm
        have e2 : ¬ 61 = b := fun h => b2 h.symm
        simp [b1, b2, e1, e2]
  · have f1 : ¬ 60 = a := fun h => a1 h.symm
    by_cases a2 : a = 62
    · subst a2
      by_cases b2 : b = 61
      · subst b2; rfl
      · have e2 : ¬ 61 = b := fun h => b2 h.symm
        simp [b2, e2]
    · have f2 : ¬ 62 = a := fun h => a2 h.symm
      by_cases a3 : a = 61
      · subst a3
        simp
      · have f3 : ¬ 61 = a := fun h => a3 h.symm
        simp [a1, a2, a3, f1, f2, f3]
theorem signP_one (a : UInt8) : signP [a] = if signB [a] = true then [a] else [] := by
  unfold signP signB Lib.hasPrefix
  simp only [List.isPrefixOf, Bool.and_true, Bool.and_eq_true, Bool.and_false, beq_iff_eq, Bool.or_eq_true, List.cons.injEq, and_true, List.cons_ne_nil, and_false, false_or, or_false, reduceCtorEq, Bool.false_eq_true, if_false]
  by_cases a1 : a = 60
  · subst a1; rfl
  · have f1 : ¬ 60 = a := fun h => a1 h.symm
    by_cases a2 : a = 62
    · subst a2; rfl
    · have f2 : ¬ 62 = a := fun h => a2 h.symm
      by_cases a3 : a = 61
      · subst a3; rfl
      · have f3 : ¬ 61 = a := fun h => a3 h.symm
        simp [a1, a2, a3, f1, f2, f3]
theorem ref_Of_eq (k : Nat) (hk : 400 ≤ k) (K n : Int) (s : List UInt8) (b : Bool) (c : Int) : foolscapref13_Of.f k K n (bl s) b c = some (toOf (ofP K n s b c)) := by
  unfold foolscapref13_Of.f
  rw [ref_Right_eq, Option.bind_some]
  by_cases hr : rightB K n s b c = true
  rotate_left
  · rw [if_neg hr]; unfold ofP; rw [if_neg hr]; rfl
  rw [if_pos hr]
  by_cases hK : K = 2
  rotate_left
  · rw [if_neg hK]; unfold ofP; rw [if_pos hr, if_neg hK]; rfl
  rw [if_pos hK]
  obtain ⟨k, rfl⟩ : ∃ j, k = j + 2 := ⟨k - 2, by omega⟩
  have w2 : wrap64 (1 + 1) = 2 := wN (by decide) (by decide)
  have w3 : wrap64 (2 + 1) = 3 := wN (by decide) (by decide)
  have t1 : (1 : Int).toNat = 1 := rfl
  have t2 : (2 : Int).toNat = 2 := rfl
  have hend : ∀ m : Nat, signP s = s.take m → m ≤ s.length → foolscapref13_Of.l0 k (m : Int) 3 K n (bl s) b c = some (toOf (ofP K n s b c)) := fun m h1 h2 => ref_Of_end k (by omega) K n s b c hr hK m h1 h2
  match s, hend with
  | [], hend =>
    simp only [foolscapref13_Of.l0, bl_size, List.length_nil]
    rw [if_pos (by decide), if_neg (by decide), w2, if_pos (by decide), if_neg (by decide), w3]
    exact hend 0 rfl (Nat.le_refl _)
  | [a], hend =>
    simp only [foolscapref13_Of.l0, bl_size, bl_extract, List.length_cons, List.length_nil, w2, w3, t1, t2]
    rw [if_pos (by decide), if_pos (by decide), if_pos (by decide), if_pos (by decide), show List.drop 0 (List.take 1 [a]) = [a] from rfl, ref_Sign_eq, Option.bind_some]
    have hs := signP_one a
    by_cases h1 : signB [a] = true
    · rw [if_pos h1, if_pos (by decide), if_neg (by decide)]
      rw [if_pos h1] at hs
      exact hend 1 hs (Nat.le_refl _)
    · rw [if_neg h1, if_pos (by decide), if_neg (by decide)]
      rw [if_neg h1] at hs
      exact hend 0 hs (Nat.zero_le _)
  | a :: b' :: r, hend =>
    simp only [foolscapref13_Of.l0, bl_size, bl_extract, List.length_cons, w2, w3, t1, t2]
    have hl : ((r.length + 1 + 1 : Nat) : Int) ≥ 2 := by omega
    rw [if_pos (by decide), if_pos (by omega), if_pos (by decide), if_pos (by omega), show List.drop 0 (List.take 1 (a :: b' :: r)) = [a] from rfl, ref_Sign_eq, Option.bind_some]
    have hs := signP_two a b' r
    by_cases h2 : signB [a, b'] = true
    · rw [if_pos h2] at hs
      have := hend 2 hs (by simp)
      by_cases h1 : signB [a] = true
      · rw [if_pos h1, if_pos (by decide), if_pos (by omega), if_pos (by decide), if_pos (by omega), show List.drop 0 (List.take 2 (a :: b' :: r)) = [a, b'] from rfl, ref_Sign_eq, Option.bind_some, if_pos h2]
        exact this
      · rw [if_neg h1, if_pos (by decide), if_pos (by omega), if_pos (by decide), if_pos (by omega), show List.drop 0 (List.take 2 (a :: b' :: r)) = [a, b'] from rfl, ref_Sign_eq, Option.bind_some, if_pos h2]
        exact this
    · rw [if_neg h2] at hs
      by_cases h1 : signB [a] = true
      · rw [if_pos h1] at hs
        rw [if_pos h1, if_pos (by decide), if_pos (by omega), if_pos (by decide), if_pos (by omega), show List.drop 0 (List.take 2 (a :: b' :: r)) = [a, b'] from rfl, ref_Sign_eq, Option.bind_some, if_neg h2]
        exact hend 1 hs (by simp)
      · rw [if_neg h1] at hs
        rw [if_neg h1, if_pos (by decide), if_pos (by omega), if_pos (by decide), if_pos (by omega), show List.drop 0 (List.take 2 (a :: b' :: r)) = [a, b'] from rfl, ref_Sign_eq, Option.bind_some, if_neg h2]
        exact hend 0 hs (by simp)
end Go.Proofs.YtngdggmlfoogcaaGreatDoor.Pr
end
section
namespace Go.Proofs.YtngdggmlfoogcaaGreatDoor.Pr
set_option linter.unusedVariables false
set_option linter.unusedSimpArgs false
open Go.RowKit Go.Proofs.YtngdggmlfoogcaaGreatDoorW.PrintWords Go.Proofs.YtngdggmlfoogcaaGreatDoorW.PrintMore
theorem crit_lives10 : foolscaplaw13_lives.f 8100010 = some true := by decide +kernel
theorem CritMeans_pure (a0_0 : Int) (a0_1 : Int) (a0_2 : ByteArray) (a0_3 : Bool) (a0_4 : Int) (a1_0 : Int) (a1_1 : Int) (a1_2 : ByteArray) (a1_3 : Bool) (a1_4 : Int) : foolscaplaw13_CritMeans.f 8100010 a0_0 a0_1 a0_2 a0_3 a0_4 a1_0 a1_1 a1_2 a1_3 a1_4 = some true := by
  rw [← bl_of a0_2, ← bl_of a1_2]
  generalize a0_2.data.toList = s
  unfold foolscaplaw13_CritMeans.f
  rw [ref_Of_eq 8100010 (by decide), Option.bind_some, crit_lives10]
  generalize ofP a0_0 a0_1 s a0_3 a0_4 = o
  unfold toOf
  simp only
  rw [crit_Fits_eq 8100010 (by decide), Option.bind_some, ref_Fits_eq 8100010 (by decide), Option.bind_some]
  split
  · rw [if_pos (by rw [beq_self_eq_true])]; rfl
  · rfl
theorem CritMeans_walk (a0_0 : Int) (a0_1 : Int) (a0_2 : ByteArray) (a0_3 : Bool) (a0_4 : Int) (a1_0 : Int) (a1_1 : Int) (a1_2 : ByteArray) (a1_3 : Bool) (a1_4 : Int) (w : World) (y0_0 : (Lit.int .i64 a0_0).wf = true) (y0_1 : (Lit.int .i64 a0_1).wf = true) (z0 : a0_2.size ≤ 140737488351232) (y0_4 : (Lit.int .i64 a0_4).wf = true) (y1_0 : (Lit.int .i64 a1_0).wf = true) (y1_1 : (Lit.int .i64 a1_1).wf = true) (z1 : a1_2.size ≤ 140737488351232) (y1_4 : (Lit.int .i64 a1_4).wf = true) (hL : Aside0 (LaidW w)) :
    Calls Tryz.prog 5 #[.agg #[.int .i64 a0_0, .int .i64 a0_1, .string a0_2, .bool a0_3, .int .i64 a0_4], .agg #[.int .i64 a1_0, .int .i64 a1_1, .string a1_2, .bool a1_3, .int .i64 a1_4]] w fun e w' => e = .returned (.bool true) ∧ Below w.heap.size w w' :=
  foolscaplaw13_CritMeans.calls 8100010 a0_0 a0_1 a0_2 a0_3 a0_4 a1_0 a1_1 a1_2 a1_3 a1_4 true w (CritMeans_pure a0_0 a0_1 a0_2 a0_3 a0_4 a1_0 a1_1 a1_2 a1_3 a1_4)
end Go.Proofs.YtngdggmlfoogcaaGreatDoor.Pr
end
