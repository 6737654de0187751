/-
  What the law ValueFolds leans on, out of the texts that were printed and written for this seat: only what its proof mentions (gathered by a program of the author's).
-/
import Derived.Test.YtgjdlimbkjdhjaaGreatDoorSValueFolds4
import Derived.Test.YtgjdlimbkjdhjaaGreatDoorSValueFolds11
import Derived.Test.YtgjdlimbkjdhjaaGreatDoorSValueFolds12
import Derived.Test.YtgjdlimbkjdhjaaGreatDoorSValueFolds13
import Derived.Test.YtgjdlimbkjdhjaaGreatDoorSValueFolds5
import Derived.Test.YtgjdlimbkjdhjaaGreatDoorSValueFolds14
import Derived.Test.YtgjdlimbkjdhjaaGreatDoorSValueFolds10
import Derived.Test.YtgjdlimbkjdhjaaGreatDoorSValueFolds6
import Derived.Test.YtgjdlimbkjdhjaaGreatDoorSValueFolds9
import Derived.Test.YtgjdlimbkjdhjaaGreatDoorSValueFolds15
import Derived.Laws.BytesArg
import Derived.Lib.IndexLaws
import Derived.Lib.ItoaNum
import Derived.Lib.ParseIntB
import Derived.Lib.Repeat
import Derived.Lib.SlTrimSet
import Derived.Lib.Strings
import Derived.WalkKit
import Derived.Lib.Bytealg
section
namespace Go.Proofs.YtgjdlimbkjdhjaaGreatDoor.Pr
set_option linter.unusedVariables false
def bl (l : List UInt8) : ByteArray := ⟨l.toArray⟩
theorem bl_size (a : List UInt8) : (bl a).size = a.length := by simp [bl, ByteArray.size]
theorem bl_toList (a : List UInt8) : (bl a).toList = a := by rw [Lib.toList_data]; simp [bl]
theorem bl_data (a : List UInt8) : (bl a).data.toList = a := by simp [bl]
theorem bl_of (s : ByteArray) : bl s.data.toList = s := by apply ByteArray.ext; simp [bl]
end Go.Proofs.YtgjdlimbkjdhjaaGreatDoor.Pr
namespace Go.Proofs.YtgjdlimbkjdhjaaGreatDoor.Pr
set_option linter.unusedVariables false
open Go.RowKit Go.Proofs.YtgjdlimbkjdhjaaGreatDoorW.PrintWords Go.Proofs.YtgjdlimbkjdhjaaGreatDoorW.PrintMore
end Go.Proofs.YtgjdlimbkjdhjaaGreatDoor.Pr
namespace Go.Proofs.YtgjdlimbkjdhjaaGreatDoor.Pr
set_option linter.unusedVariables false
set_option linter.unusedSimpArgs false
end Go.Proofs.YtgjdlimbkjdhjaaGreatDoor.Pr
namespace Go.Proofs.YtgjdlimbkjdhjaaGreatDoor.Pr
set_option linter.unusedVariables false
set_option linter.unusedSimpArgs false
end Go.Proofs.YtgjdlimbkjdhjaaGreatDoor.Pr
namespace Go.Proofs.YtgjdlimbkjdhjaaGreatDoor.Pr
set_option linter.unusedVariables false
set_option linter.unusedSimpArgs false
open Go.RowKit Go.Proofs.YtgjdlimbkjdhjaaGreatDoorW.PrintWords Go.Proofs.YtgjdlimbkjdhjaaGreatDoorW.PrintMore
theorem wN {a : Int} (h0 : -9223372036854775808 ≤ a) (h1 : a ≤ 9223372036854775807) : wrap64 a = a := by unfold wrap64; omega
end Go.Proofs.YtgjdlimbkjdhjaaGreatDoor.Pr
namespace Go.Proofs.YtgjdlimbkjdhjaaGreatDoor.Pr
set_option linter.unusedVariables false
set_option linter.unusedSimpArgs false
open Go.RowKit Go.Proofs.YtgjdlimbkjdhjaaGreatDoorW.PrintWords Go.Proofs.YtgjdlimbkjdhjaaGreatDoorW.PrintMore
end Go.Proofs.YtgjdlimbkjdhjaaGreatDoor.Pr
namespace Go.Proofs.YtgjdlimbkjdhjaaGreatDoor.Pr
set_option linter.unusedVariables false
set_option linter.unusedSimpArgs false
open Go.RowKit Go.Proofs.YtgjdlimbkjdhjaaGreatDoorW.PrintWords Go.Proofs.YtgjdlimbkjdhjaaGreatDoorW.PrintMore
def fitB (n : Int) : Bool := decide (-1000000000000000000 ≤ n ∧ n ≤ 1000000000000000000)
theorem num_Fits_fit (n : Int) : num_Fits.f n = some (fitB n) := by
  unfold num_Fits.f fitB
  by_cases c : n ≥ -1000000000000000000
  · rw [if_pos c]; congr 1; rw [decide_eq_decide]; omega
  · rw [if_neg c]; congr 1; exact (decide_eq_false (by omega)).symm
end Go.Proofs.YtgjdlimbkjdhjaaGreatDoor.Pr
end
section
namespace Go.Proofs.YtgjdlimbkjdhjaaGreatDoor.Pr
set_option linter.unusedVariables false
set_option linter.unusedSimpArgs false
open Go.RowKit Go.Proofs.YtgjdlimbkjdhjaaGreatDoorW.PrintWords Go.Proofs.YtgjdlimbkjdhjaaGreatDoorW.PrintMore
def rightB (K n : Int) (s : List UInt8) (b : Bool) (c : Int) : Bool :=
  if K = 0 then n == 0 && (s == [] && (!b && c == 0))
  else if K = 1 then fitB n && (s == [] && (!b && c == 0))
  else if K = 2 then decide (s.length ≤ 255) && (n == 0 && (!b && c == 0))
  else if K = 3 then n == 0 && (s == [] && c == 0)
  else if K = 4 then decide (1 ≤ c ∧ c ≤ 7) && (n == 0 && (s == [] && !b))
  else false
theorem rightB_cases {K n : Int} {s : List UInt8} {b : Bool} {c : Int} (h : rightB K n s b c = true) :
    (K = 0 ∧ n = 0 ∧ s = [] ∧ b = false ∧ c = 0) ∨ (K = 1 ∧ fitB n = true ∧ s = [] ∧ b = false ∧ c = 0) ∨ (K = 2 ∧ s.length ≤ 255 ∧ n = 0 ∧ b = false ∧ c = 0) ∨ (K = 3 ∧ n = 0 ∧ s = [] ∧ c = 0) ∨ (K = 4 ∧ 1 ≤ c ∧ c ≤ 7 ∧ n = 0 ∧ s = [] ∧ b = false) := by
  unfold rightB at h
  by_cases k0 : K = 0
  · rw [if_pos k0] at h
    simp only [Bool.and_eq_true, beq_iff_eq, Bool.not_eq_true'] at h
    exact Or.inl ⟨k0, h.1, h.2.1, h.2.2.1, h.2.2.2⟩
  rw [if_neg k0] at h
  by_cases k1 : K = 1
  · rw [if_pos k1] at h
    simp only [Bool.and_eq_true, beq_iff_eq, Bool.not_eq_true'] at h
    exact Or.inr (Or.inl ⟨k1, h.1, h.2.1, h.2.2.1, h.2.2.2⟩)
  rw [if_neg k1] at h
  by_cases k2 : K = 2
  · rw [if_pos k2] at h
    simp only [Bool.and_eq_true, beq_iff_eq, Bool.not_eq_true', decide_eq_true_eq] at h
    exact Or.inr (Or.inr (Or.inl ⟨k2, h.1, h.2.1, h.2.2.1, h.2.2.2⟩))
  rw [if_neg k2] at h
  by_cases k3 : K = 3
  · rw [if_pos k3] at h
    simp only [Bool.and_eq_true, beq_iff_eq, Bool.not_eq_true'] at h
    exact Or.inr (Or.inr (Or.inr (Or.inl ⟨k3, h.1, h.2.1, h.2.2⟩)))
  rw [if_neg k3] at h
  by_cases k4 : K = 4
  · rw [if_pos k4] at h
    simp only [Bool.and_eq_true, beq_iff_eq, Bool.not_eq_true', decide_eq_true_eq] at h
    exact Or.inr (Or.inr (Or.inr (Or.inr ⟨k4, h.1.1, h.1.2, h.2.1, h.2.2.1, h.2.2.2⟩)))
  rw [if_neg k4] at h
  cases h
theorem n24 : ¬ ((2 : Int) = 4) := by decide
theorem bl_sz (s : List UInt8) : ((bl s).size : Int) = (s.length : Int) := by rw [bl_size]
theorem value_Check_eq (K n : Int) (s : List UInt8) (b : Bool) (c : Int) : value_Check.f K n (bl s) b c = some (if rightB K n s b c = true then 0 else 2) := by
  unfold value_Check.f rightB
  rw [num_Fits_fit]
  simp only [bl_toList, bl_sz, Option.bind_some]
  by_cases k0 : K = 0
  · simp only [if_pos k0, Bool.and_eq_true, beq_iff_eq, Bool.not_eq_true']
  simp only [if_neg k0]
  by_cases k1 : K = 1
  · simp only [if_pos k1, Bool.and_eq_true, beq_iff_eq, Bool.not_eq_true']
  simp only [if_neg k1]
  by_cases k2 : K = 2
  · simp only [if_pos k2, Bool.and_eq_true, beq_iff_eq, Bool.not_eq_true', decide_eq_true_eq]
    congr 1
    by_cases hl : s.length ≤ 255
    · simp only [hl, show ((s.length : Int) ≤ 255) = True from eq_true (by omega)]
    · simp only [hl, show ((s.length : Int) ≤ 255) = False from eq_false (by omega)]
  simp only [if_neg k2]
  by_cases k3 : K = 3
  · simp only [if_pos k3, Bool.and_eq_true, beq_iff_eq, Bool.not_eq_true']
  simp only [if_neg k3]
  by_cases k4 : K = 4
  · simp only [if_pos k4, Bool.and_eq_true, beq_iff_eq, Bool.not_eq_true', decide_eq_true_eq, and_assoc]
    congr 1
  simp only [if_neg k4]
  rfl
def foldL (l : List UInt8) : List UInt8 := l.map up
theorem foldL_length (l : List UInt8) : (foldL l).length = l.length := by simp [foldL]
theorem value_Fold_eq (l : List UInt8) (h : l.length ≤ 140737488351232) : value_Fold.f (bl l) = some (bl (foldL l)) := by
  unfold value_Fold.f
  rw [if_pos (by rw [bl_size]; exact h)]
  unfold foldB foldL
  rw [bl_data]; rfl
def TRUEL : List UInt8 := [84, 82, 85, 69]
def FALSEL : List UInt8 := [70, 65, 76, 83, 69]
def truP (s : List UInt8) : Bool × Bool := (foldL s == TRUEL, foldL s == TRUEL || foldL s == FALSEL)
theorem value_truth_eq (l : List UInt8) (h : l.length ≤ 140737488351232) : value_truth.f (bl l) = some (truP l) := by
  unfold value_truth.f truP TRUEL FALSEL
  rw [value_Fold_eq l h, Option.bind_some, bl_toList]
  by_cases c : foldL l = [84, 82, 85, 69]
  · rw [if_pos c]; simp [c]
  · rw [if_neg c]; simp [c]
def truthP (K n : Int) (s : List UInt8) (b : Bool) (c : Int) : Bool × Int :=
  if rightB K n s b c = true then (if K = 4 then (false, c) else if K = 2 then (if (truP s).2 = true then ((truP s).1, 0) else (false, 2)) else (b || n != 0, 0)) else (false, 2)
theorem value_code_eq (K n : Int) (s : List UInt8) (b : Bool) (c : Int) : value_code.f K n (bl s) b c = some (if rightB K n s b c = true then c else 2) := by
  unfold value_code.f
  rw [value_Check_eq, Option.bind_some]
  cases rightB K n s b c <;> rfl
theorem value_Truth_eq (K n : Int) (s : List UInt8) (b : Bool) (c : Int) : value_Truth.f K n (bl s) b c = some (truthP K n s b c) := by
  unfold value_Truth.f truthP
  rw [value_code_eq, Option.bind_some]
  cases h : rightB K n s b c with
  | false => rfl
  | true =>
    rcases rightB_cases h with ⟨rfl, rfl, rfl, rfl, rfl⟩ | ⟨rfl, hf, rfl, rfl, rfl⟩ | ⟨rfl, hl, rfl, rfl, rfl⟩ | ⟨rfl, rfl, rfl, rfl⟩ | ⟨rfl, h1, h7, rfl, rfl, rfl⟩
    · rfl
    · rfl
    · simp only [if_true]
      rw [value_truth_eq s (by omega), Option.bind_some, if_neg n24]
      split <;> rfl
    · cases b <;> rfl
    · simp only [if_true]
      rw [if_neg (by omega)]
end Go.Proofs.YtgjdlimbkjdhjaaGreatDoor.Pr
namespace Go.Proofs.YtgjdlimbkjdhjaaGreatDoor.Pr
set_option linter.unusedVariables false
set_option linter.unusedSimpArgs false
open Go.RowKit Go.Proofs.YtgjdlimbkjdhjaaGreatDoorW.PrintWords Go.Proofs.YtgjdlimbkjdhjaaGreatDoorW.PrintMore
end Go.Proofs.YtgjdlimbkjdhjaaGreatDoor.Pr
namespace Go.Proofs.YtgjdlimbkjdhjaaGreatDoor.Pr
set_option linter.unusedVariables false
set_option linter.unusedSimpArgs false
open Go.RowKit Go.Proofs.YtgjdlimbkjdhjaaGreatDoorW.PrintWords Go.Proofs.YtgjdlimbkjdhjaaGreatDoorW.PrintMore
def cmpZ (a b : Int) : Int := if a < b then -1 else if b < a then 1 else 0
def rankZ (b : Bool) : Int := if b = true then 1 else 0
theorem cmpZ_self (a : Int) : cmpZ a a = 0 := by unfold cmpZ; rw [if_neg (Int.lt_irrefl a), if_neg (Int.lt_irrefl a)]
theorem nan_kind (a : Int) : api_Kind_60.f a = some false := by
  unfold api_Kind_60.f; simp
theorem nan_int (a : Int) : cmp_isNaN_int.f a = some false := by
  unfold cmp_isNaN_int.f; simp
theorem cmp_kind (a b : Int) : api_Kind_42.f a b = some (cmpZ a b) := by
  unfold api_Kind_42.f cmpZ
  rw [nan_kind, nan_kind, Option.bind_some, Option.bind_some, if_neg (by decide), if_neg (by decide)]
  split
  · rfl
  · split <;> rfl
theorem cmp_int (a b : Int) : cmp_Compare_int.f a b = some (cmpZ a b) := by
  unfold cmp_Compare_int.f cmpZ
  rw [nan_int, nan_int, Option.bind_some, Option.bind_some, if_neg (by decide), if_neg (by decide)]
  split
  · rfl
  · split <;> rfl
theorem rank_eq (b : Bool) : value_rank.f b = some (rankZ b) := by cases b <;> rfl
def orZ : List Int → Int
  | [] => 0
  | a :: r => if a = 0 then orZ r else a
theorem or_code (l : List Int) (hl : l.length ≤ 100) : ∀ (r p : List Int) (k : Nat), l = p ++ r → r.length < k → api_Code.l0 k 0 l (l.length : Int) (p.length : Int) = some (orZ r) := by
  intro r
  induction r with
  | nil =>
    intro p k h hk
    obtain ⟨k, rfl⟩ : ∃ m, k = m + 1 := ⟨k - 1, by simp at hk; omega⟩
    simp only [api_Code.l0]
    rw [if_neg (by subst h; simp)]
    rfl
  | cons a r ih =>
    intro p k h hk
    obtain ⟨k, rfl⟩ : ∃ m, k = m + 1 := ⟨k - 1, by simp at hk; omega⟩
    have hlen : l.length = p.length + r.length + 1 := by subst h; simp; omega
    have hrd : rd l (p.length : Int) = a := by subst h; simp [rd]
    simp only [api_Code.l0, hrd]
    rw [if_pos (by omega), if_pos (by omega), if_pos (by omega)]
    unfold orZ
    by_cases e : a = 0
    · rw [if_pos e, if_pos e, wN (by omega) (by omega)]
      have := ih (p ++ [a]) k (by rw [h]; simp) (by simp at hk; omega)
      simpa using this
    · rw [if_neg e, if_neg e]
theorem or_int (l : List Int) (hl : l.length ≤ 100) : ∀ (r p : List Int) (k : Nat), l = p ++ r → r.length < k → cmp_Or_int.l0 k 0 l (l.length : Int) (p.length : Int) = some (orZ r) := by
  intro r
  induction r with
  | nil =>
    intro p k h hk
    obtain ⟨k, rfl⟩ : ∃ m, k = m + 1 := ⟨k - 1, by simp at hk; omega⟩
    simp only [cmp_Or_int.l0]
    rw [if_neg (by subst h; simp)]
    rfl
  | cons a r ih =>
    intro p k h hk
    obtain ⟨k, rfl⟩ : ∃ m, k = m + 1 := ⟨k - 1, by simp at hk; omega⟩
    have hlen : l.length = p.length + r.length + 1 := by subst h; simp; omega
    have hrd : rd l (p.length : Int) = a := by subst h; simp [rd]
    simp only [cmp_Or_int.l0, hrd]
    rw [if_pos (by omega), if_pos (by omega), if_pos (by omega)]
    unfold orZ
    by_cases e : a = 0
    · rw [if_pos e, if_pos e, wN (by omega) (by omega)]
      have := ih (p ++ [a]) k (by rw [h]; simp) (by simp at hk; omega)
      simpa using this
    · rw [if_neg e, if_neg e]
theorem or_code_eq (k : Nat) (l : List Int) (hl : l.length ≤ 100) (hk : l.length < k) : api_Code.f k l = some (orZ l) := or_code l hl l [] k rfl hk
theorem or_int_eq (k : Nat) (l : List Int) (hl : l.length ≤ 100) (hk : l.length < k) : cmp_Or_int.f k l = some (orZ l) := or_int l hl l [] k rfl hk
def bytesZ (a b : List UInt8) : Int := Lib.compareBytes a b
theorem strings_Compare_eq (a b : List UInt8) : strings_Compare.f (bl a) (bl b) = some (bytesZ a b) := by
  unfold strings_Compare.f bytesZ
  rw [bl_data, bl_data]
theorem bytesZ_self (a : List UInt8) : bytesZ a a = 0 := by
  induction a with
  | nil => rfl
  | cons x a ih =>
    unfold bytesZ at *
    unfold Lib.compareBytes
    rw [if_neg (UInt8.lt_irrefl x), if_neg (UInt8.lt_irrefl x)]; exact ih
def compareP (K n : Int) (s : List UInt8) (b : Bool) (c : Int) (K' n' : Int) (s' : List UInt8) (b' : Bool) (c' : Int) : Int × Int :=
  if rightB K n s b c = true ∧ rightB K' n' s' b' c' = true then
    (if K = 4 then (0, c) else if K' = 4 then (0, c') else if K = 0 ∧ K' = 0 then (0, 0)
      else if K ≠ K' ∧ K ≠ 0 ∧ K' ≠ 0 then (cmpZ K K', 0)
      else if K = 1 ∨ K' = 1 then (cmpZ n n', 0) else if K = 2 ∨ K' = 2 then (bytesZ (foldL s) (foldL s'), 0) else (cmpZ (rankZ b) (rankZ b'), 0)) else (0, 2)
def alikeP (K n : Int) (s : List UInt8) (b : Bool) (c : Int) (K' n' : Int) (s' : List UInt8) (b' : Bool) (c' : Int) : Bool :=
  rightB K n s b c && (rightB K' n' s' b' c' && (K == K' && (n == n' && (foldL s == foldL s' && (b == b' && (c == c'))))))
theorem right_len {K n : Int} {s : List UInt8} {b : Bool} {c : Int} (h : rightB K n s b c = true) : s.length ≤ 255 := by
  rcases rightB_cases h with ⟨_, _, rfl, _, _⟩ | ⟨_, _, rfl, _, _⟩ | ⟨_, hl, _, _, _⟩ | ⟨_, _, rfl, _⟩ | ⟨_, _, _, _, rfl, _⟩
  all_goals first | exact Nat.zero_le _ | exact hl
theorem value_Alike_eq (k : Nat) (hk : 5 ≤ k) (K n : Int) (s : List UInt8) (b : Bool) (c : Int) (K' n' : Int) (s' : List UInt8) (b' : Bool) (c' : Int) : value_Alike.f k K n (bl s) b c K' n' (bl s') b' c' = some (alikeP K n s b c K' n' s' b' c') := by
  obtain ⟨k, rfl⟩ : ∃ m, k = m + 1 := ⟨k - 1, by omega⟩
  unfold value_Alike.f alikeP
  rw [value_Check_eq, Option.bind_some]
  cases h : rightB K n s b c with
  | false => rfl
  | true =>
    rw [if_pos rfl, if_pos rfl, value_Check_eq, Option.bind_some]
    cases h' : rightB K' n' s' b' c' with
    | false => rfl
    | true =>
      simp only [value_Alike.j0]
      rw [value_Fold_eq s (by have := right_len h; omega), value_Fold_eq s' (by have := right_len h'; omega)]
      simp only [Option.bind_some, bl_toList]
      rfl
theorem value_Compare_j2 (k : Nat) (hk : 10 ≤ k) (K n : Int) (s : List UInt8) (b : Bool) (c : Int) (K' n' : Int) (s' : List UInt8) (b' : Bool) (c' : Int) (hs : s.length ≤ 255) (hs' : s'.length ≤ 255) :
    value_Compare.j2 k K n (bl s) b c K' n' (bl s') b' c' = some (orZ [cmpZ K K', cmpZ n n', bytesZ (foldL s) (foldL s'), cmpZ (rankZ b) (rankZ b')], 0) := by
  obtain ⟨k, rfl⟩ : ∃ m, k = m + 1 := ⟨k - 1, by omega⟩
  simp only [value_Compare.j2]
  rw [cmp_kind, Option.bind_some, cmp_int, Option.bind_some, value_Fold_eq s (by omega), Option.bind_some, value_Fold_eq s' (by omega), Option.bind_some, strings_Compare_eq, Option.bind_some, rank_eq, Option.bind_some, rank_eq, Option.bind_some, cmp_int, Option.bind_some, or_int_eq k _ (by simp) (by simp; omega), Option.bind_some]
theorem value_Compare_j0 (k : Nat) (hk : 20 ≤ k) (K n : Int) (s : List UInt8) (b : Bool) (c : Int) (K' n' : Int) (s' : List UInt8) (b' : Bool) (c' : Int) (hs : s.length ≤ 255) (hs' : s'.length ≤ 255) :
    value_Compare.j0 k false K n (bl s) b c K' n' (bl s') b' c' = some (if orZ [c, c'] = 0 then (orZ [cmpZ (if K = 0 then K' else K) (if K' = 0 then (if K = 0 then K' else K) else K'), cmpZ n n', bytesZ (foldL s) (foldL s'), cmpZ (rankZ b) (rankZ b')], 0) else (0, orZ [c, c'])) := by
  obtain ⟨k, rfl⟩ : ∃ m, k = m + 1 := ⟨k - 1, by omega⟩
  simp only [value_Compare.j0]
  rw [if_neg (by decide), or_code_eq k _ (by simp) (by simp; omega), Option.bind_some]
  obtain ⟨k, rfl⟩ : ∃ m, k = m + 1 := ⟨k - 1, by omega⟩
  by_cases hc : orZ [c, c'] = 0
  · rw [if_pos hc, if_pos hc]
    by_cases h0 : K = 0
    · rw [if_pos h0, if_pos h0]
      simp only [value_Compare.j1]
      by_cases h1 : K' = 0
      · rw [if_pos h1, if_pos h1, value_Compare_j2 k (by omega) _ _ _ _ _ _ _ _ _ _ hs hs']
      · rw [if_neg h1, if_neg h1, value_Compare_j2 k (by omega) _ _ _ _ _ _ _ _ _ _ hs hs']
    · rw [if_neg h0, if_neg h0]
      simp only [value_Compare.j1]
      by_cases h1 : K' = 0
      · rw [if_pos h1, if_pos h1, value_Compare_j2 k (by omega) _ _ _ _ _ _ _ _ _ _ hs hs']
      · rw [if_neg h1, if_neg h1, value_Compare_j2 k (by omega) _ _ _ _ _ _ _ _ _ _ hs hs']
  · rw [if_neg hc, if_neg hc]
theorem bytesZ_nil : bytesZ (foldL []) (foldL []) = 0 := rfl
theorem z12 : cmpZ 1 2 = -1 := by decide
theorem z13 : cmpZ 1 3 = -1 := by decide
theorem z21 : cmpZ 2 1 = 1 := by decide
theorem z23 : cmpZ 2 3 = -1 := by decide
theorem z31 : cmpZ 3 1 = 1 := by decide
theorem z32 : cmpZ 3 2 = 1 := by decide
theorem value_Compare_eq (k : Nat) (hk : 20 ≤ k) (K n : Int) (s : List UInt8) (b : Bool) (c : Int) (K' n' : Int) (s' : List UInt8) (b' : Bool) (c' : Int) : value_Compare.f k K n (bl s) b c K' n' (bl s') b' c' = some (compareP K n s b c K' n' s' b' c') := by
  unfold value_Compare.f compareP
  rw [value_Check_eq, Option.bind_some]
  cases h : rightB K n s b c with
  | false =>
    rw [if_neg (by decide)]
    obtain ⟨k, rfl⟩ : ∃ m, k = m + 1 := ⟨k - 1, by omega⟩
    simp [value_Compare.j0]
  | true =>
    rw [if_pos rfl, if_pos rfl, value_Check_eq, Option.bind_some]
    cases h' : rightB K' n' s' b' c' with
    | false =>
      obtain ⟨k, rfl⟩ : ∃ m, k = m + 1 := ⟨k - 1, by omega⟩
      simp [value_Compare.j0]
    | true =>
      rw [if_pos rfl, show ((0 : Int) != 0) = false from rfl, value_Compare_j0 k hk _ _ _ _ _ _ _ _ _ _ (right_len h) (right_len h'), if_pos (show (true = true ∧ true = true) from ⟨rfl, rfl⟩)]
      have hl := right_len h
      have hl' := right_len h'
      have g := rightB_cases h
      have g' := rightB_cases h'
      clear h h'
      rcases g with ⟨rfl, rfl, rfl, rfl, rfl⟩ | ⟨rfl, hf, rfl, rfl, rfl⟩ | ⟨rfl, hl, rfl, rfl, rfl⟩ | ⟨rfl, rfl, rfl, rfl⟩ | ⟨rfl, h1, h7, rfl, rfl, rfl⟩
      · rcases g' with ⟨rfl, rfl, rfl, rfl, rfl⟩ | ⟨rfl, hf', rfl, rfl, rfl⟩ | ⟨rfl, hl', rfl, rfl, rfl⟩ | ⟨rfl, rfl, rfl, rfl⟩ | ⟨rfl, h1', h7', rfl, rfl, rfl⟩
        · simp [orZ, cmpZ_self, bytesZ_nil, z12, z13, z21, z23, z31, z32]; try exact fun h0 => h0.symm
        · simp [orZ, cmpZ_self, bytesZ_nil, z12, z13, z21, z23, z31, z32]; try exact fun h0 => h0.symm
        · simp [orZ, cmpZ_self, bytesZ_nil, z12, z13, z21, z23, z31, z32]; try exact fun h0 => h0.symm
        · simp [orZ, cmpZ_self, bytesZ_nil, z12, z13, z21, z23, z31, z32]; try exact fun h0 => h0.symm
        · have hc0 : ¬ c' = 0 := by omega
          simp [hc0, orZ, cmpZ_self, bytesZ_nil, z12, z13, z21, z23, z31, z32]
      · rcases g' with ⟨rfl, rfl, rfl, rfl, rfl⟩ | ⟨rfl, hf', rfl, rfl, rfl⟩ | ⟨rfl, hl', rfl, rfl, rfl⟩ | ⟨rfl, rfl, rfl, rfl⟩ | ⟨rfl, h1', h7', rfl, rfl, rfl⟩
        · simp [orZ, cmpZ_self, bytesZ_nil, z12, z13, z21, z23, z31, z32]; try exact fun h0 => h0.symm
        · simp [orZ, cmpZ_self, bytesZ_nil, z12, z13, z21, z23, z31, z32]; try exact fun h0 => h0.symm
        · simp [orZ, cmpZ_self, bytesZ_nil, z12, z13, z21, z23, z31, z32]; try exact fun h0 => h0.symm
        · simp [orZ, cmpZ_self, bytesZ_nil, z12, z13, z21, z23, z31, z32]; try exact fun h0 => h0.symm
        · have hc0 : ¬ c' = 0 := by omega
          simp [hc0, orZ, cmpZ_self, bytesZ_nil, z12, z13, z21, z23, z31, z32]
      · rcases g' with ⟨rfl, rfl, rfl, rfl, rfl⟩ | ⟨rfl, hf', rfl, rfl, rfl⟩ | ⟨rfl, hl', rfl, rfl, rfl⟩ | ⟨rfl, rfl, rfl, rfl⟩ | ⟨rfl, h1', h7', rfl, rfl, rfl⟩
        · simp [orZ, cmpZ_self, bytesZ_nil, z12, z13, z21, z23, z31, z32]; try exact fun h0 => h0.symm
        · simp [orZ, cmpZ_self, bytesZ_nil, z12, z13, z21, z23, z31, z32]; try exact fun h0 => h0.symm
        · simp [orZ, cmpZ_self, bytesZ_nil, z12, z13, z21, z23, z31, z32]; try exact fun h0 => h0.symm
        · simp [orZ, cmpZ_self, bytesZ_nil, z12, z13, z21, z23, z31, z32]; try exact fun h0 => h0.symm
        · have hc0 : ¬ c' = 0 := by omega
          simp [hc0, orZ, cmpZ_self, bytesZ_nil, z12, z13, z21, z23, z31, z32]
      · rcases g' with ⟨rfl, rfl, rfl, rfl, rfl⟩ | ⟨rfl, hf', rfl, rfl, rfl⟩ | ⟨rfl, hl', rfl, rfl, rfl⟩ | ⟨rfl, rfl, rfl, rfl⟩ | ⟨rfl, h1', h7', rfl, rfl, rfl⟩
        · simp [orZ, cmpZ_self, bytesZ_nil, z12, z13, z21, z23, z31, z32]; try exact fun h0 => h0.symm
        · simp [orZ, cmpZ_self, bytesZ_nil, z12, z13, z21, z23, z31, z32]; try exact fun h0 => h0.symm
        · simp [orZ, cmpZ_self, bytesZ_nil, z12, z13, z21, z23, z31, z32]; try exact fun h0 => h0.symm
        · simp [orZ, cmpZ_self, bytesZ_nil, z12, z13, z21, z23, z31, z32]; try exact fun h0 => h0.symm
        · have hc0 : ¬ c' = 0 := by omega
          simp [hc0, orZ, cmpZ_self, bytesZ_nil, z12, z13, z21, z23, z31, z32]
      · rcases g' with ⟨rfl, rfl, rfl, rfl, rfl⟩ | ⟨rfl, hf', rfl, rfl, rfl⟩ | ⟨rfl, hl', rfl, rfl, rfl⟩ | ⟨rfl, rfl, rfl, rfl⟩ | ⟨rfl, h1', h7', rfl, rfl, rfl⟩
        all_goals (have hc0 : ¬ c = 0 := by omega)
        all_goals simp [hc0, orZ, cmpZ_self, bytesZ_nil, z12, z13, z21, z23, z31, z32]
end Go.Proofs.YtgjdlimbkjdhjaaGreatDoor.Pr
namespace Go.Proofs.YtgjdlimbkjdhjaaGreatDoor.Pr
set_option linter.unusedVariables false
set_option linter.unusedSimpArgs false
open Go.RowKit Go.Proofs.YtgjdlimbkjdhjaaGreatDoorW.PrintWords Go.Proofs.YtgjdlimbkjdhjaaGreatDoorW.PrintMore
theorem value_lives' : foolscaplaw04_lives.f 2499 = some true := by decide +kernel
theorem up_up (c : UInt8) : up (up c) = up c := by
  by_cases h : 97 ≤ c.toNat ∧ c.toNat ≤ 122
  · have := up_le c h.1 h.2
    exact up_no _ (by omega)
  · rw [up_no c h, up_no c h]
theorem foldL_foldL (l : List UInt8) : foldL (foldL l) = foldL l := by
  unfold foldL
  rw [List.map_map]
  exact List.map_congr_left fun c _ => up_up c
end Go.Proofs.YtgjdlimbkjdhjaaGreatDoor.Pr
end
section
namespace Go.Proofs.YtgjdlimbkjdhjaaGreatDoor.Pr
set_option linter.unusedVariables false
set_option linter.unusedSimpArgs false
open Go.RowKit Go.Proofs.YtgjdlimbkjdhjaaGreatDoorW.PrintWords Go.Proofs.YtgjdlimbkjdhjaaGreatDoorW.PrintMore
theorem bytesZ_zero (a b : List UInt8) : (bytesZ a b = 0) = (a = b) := by
  refine propext ⟨fun h => ?_, fun h => by rw [h]; exact bytesZ_self b⟩
  unfold bytesZ at h
  induction a generalizing b with
  | nil =>
    cases b with
    | nil => rfl
    | cons y b => exact absurd h (by unfold Lib.compareBytes; decide)
  | cons x a ih =>
    cases b with
    | nil => exact absurd h (by unfold Lib.compareBytes; decide)
    | cons y b =>
      unfold Lib.compareBytes at h
      split at h
      · exact absurd h (by decide)
      · split at h
        · exact absurd h (by decide)
        · rename_i h1 h2
          have : x = y := UInt8.toNat_inj.mp (by have h1' : ¬ x.toNat < y.toNat := fun g => h1 (UInt8.lt_iff_toNat_lt.mpr g); have h2' : ¬ y.toNat < x.toNat := fun g => h2 (UInt8.lt_iff_toNat_lt.mpr g); omega)
          rw [this, ih b h]
theorem ValueFolds_pure (a0 : ByteArray) (a1 : ByteArray) (z0 : a0.size ≤ 140737488351232) (z1 : a1.size ≤ 140737488351232) : foolscaplaw04_ValueFolds.f 2500 a0 a1 = some true := by
  rw [← bl_of a0, ← bl_of a1]
  have hz : a0.data.toList.length ≤ 140737488351232 := by rw [Array.length_toList]; exact z0
  have hz1 : a1.data.toList.length ≤ 140737488351232 := by rw [Array.length_toList]; exact z1
  generalize a0.data.toList = s at hz
  generalize a1.data.toList = t at hz1
  clear z0 z1
  have hf := value_Fold_eq s hz
  have hff : value_Fold.f (bl (foldL s)) = some (bl (foldL s)) := by rw [value_Fold_eq _ (by rw [foldL_length]; exact hz), foldL_foldL]
  have hlong : foolscaplaw04_ValueFolds.j0 2500 (bl s) (bl t) true = some true := by
    rw [show (2500 : Nat) = 2499 + 1 from rfl]
    simp only [foolscaplaw04_ValueFolds.j0]
    rw [if_pos (by first | trivial | rfl), hf]
    simp only [Option.bind_some]
    rw [hff]
    simp only [Option.bind_some, if_true, bl_size, foldL_length]
    rw [value_lives', Option.bind_some]
  unfold foolscaplaw04_ValueFolds.f
  rw [bl_size, bl_size]
  by_cases c1 : (s.length : Int) > 255
  · rw [if_pos c1]; exact hlong
  rw [if_neg c1]
  by_cases c2 : (t.length : Int) > 255
  · rw [decide_eq_true c2]; exact hlong
  rw [decide_eq_false c2]
  have hs : s.length ≤ 255 := by omega
  have ht : t.length ≤ 255 := by omega
  have hft := value_Fold_eq t hz1
  have r1 : ∀ l : List UInt8, l.length ≤ 255 → rightB 2 0 l false 0 = true := fun l h => by simp [rightB, h]
  have hcmp : value_Compare.f 2499 2 0 (bl s) false 0 2 0 (bl t) false 0 = some (bytesZ (foldL s) (foldL t), 0) := by
    rw [value_Compare_eq 2499 (by decide)]
    unfold compareP
    rw [if_pos ⟨r1 s hs, r1 t ht⟩]
    rfl
  have hali : value_Alike.f 2499 2 0 (bl s) false 0 2 0 (bl t) false 0 = some (foldL s == foldL t) := by
    rw [value_Alike_eq 2499 (by decide)]
    unfold alikeP
    rw [r1 s hs, r1 t ht]
    simp
  have htr : value_Truth.f 2 0 (bl (foldL s)) false 0 = value_Truth.f 2 0 (bl s) false 0 := by
    rw [value_Truth_eq, value_Truth_eq]
    unfold truthP truP
    rw [r1 s hs, r1 (foldL s) (by rw [foldL_length]; exact hs), foldL_foldL]
  rw [show (2500 : Nat) = 2499 + 1 from rfl]
  simp only [foolscaplaw04_ValueFolds.j0]
  rw [if_neg (by first | exact Bool.false_ne_true | exact not_false), hf]
  simp only [Option.bind_some]
  rw [hft]
  simp only [Option.bind_some, foolscaplaw04_text.f]
  rw [hcmp]
  simp only [Option.bind_some]
  rw [value_Truth_eq]
  simp only [Option.bind_some]
  rw [htr, value_Truth_eq]
  simp only [Option.bind_some]
  rw [hff]
  simp only [Option.bind_some, if_true, bl_toList]
  have hz0 : (bytesZ (foldL s) (foldL t) == 0) = (foldL s == foldL t) := by
    rw [Bool.eq_iff_iff, beq_iff_eq, beq_iff_eq, bytesZ_zero]
  rw [hz0, if_pos (by simp), hali]
  simp only [Option.bind_some]
  rw [if_pos (by simp), if_pos (by simp), value_lives', Option.bind_some]
theorem ValueFolds_walk (a0 : ByteArray) (a1 : ByteArray) (w : World) (z0 : a0.size ≤ 140737488351232) (z1 : a1.size ≤ 140737488351232) (hL : Aside0 (LaidW w)) :
    Calls Tryz.prog 10 #[.string a0, .string a1] w fun e w' => e = .returned (.bool true) ∧ Below w.heap.size w w' :=
  foolscaplaw04_ValueFolds.calls 2500 a0 a1 true w (ValueFolds_pure a0 a1 z0 z1) hL
end Go.Proofs.YtgjdlimbkjdhjaaGreatDoor.Pr
end
