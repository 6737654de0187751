/-
  What the law ValueOrder leans on, out of the texts that were printed and written for this seat: only what its proof mentions (gathered by a program of the author's).
-/
import Derived.Test.YtgjdlimbkjdhjaaGreatDoorSValueOrder4
import Derived.Test.YtgjdlimbkjdhjaaGreatDoorSValueOrder11
import Derived.Test.YtgjdlimbkjdhjaaGreatDoorSValueOrder12
import Derived.Test.YtgjdlimbkjdhjaaGreatDoorSValueOrder13
import Derived.Test.YtgjdlimbkjdhjaaGreatDoorSValueOrder5
import Derived.Test.YtgjdlimbkjdhjaaGreatDoorSValueOrder14
import Derived.Test.YtgjdlimbkjdhjaaGreatDoorSValueOrder10
import Derived.Test.YtgjdlimbkjdhjaaGreatDoorSValueOrder6
import Derived.Test.YtgjdlimbkjdhjaaGreatDoorSValueOrder9
import Derived.Test.YtgjdlimbkjdhjaaGreatDoorSValueOrder15
import Derived.Laws.BytesArg
import Derived.Lib.IndexLaws
import Derived.Lib.ItoaNum
import Derived.Lib.ParseIntB
import Derived.Lib.Repeat
import Derived.Lib.SlTrimSet
import Derived.Lib.Strings
import Derived.WalkKit
import Derived.Lib.Bytealg
section
namespace Go.Proofs.YtgjdlimbkjdhjaaGreatDoor.Pr
set_option linter.unusedVariables false
def bl (l : List UInt8) : ByteArray := ⟨l.toArray⟩
theorem bl_size (a : List UInt8) : (bl a).size = a.length := by simp [bl, ByteArray.size]
theorem bl_toList (a : List UInt8) : (bl a).toList = a := by rw [Lib.toList_data]; simp [bl]
theorem bl_data (a : List UInt8) : (bl a).data.toList = a := by simp [bl]
theorem bl_of (s : ByteArray) : bl s.data.toList = s := by apply ByteArray.ext; simp [bl]
end Go.Proofs.YtgjdlimbkjdhjaaGreatDoor.Pr
namespace Go.Proofs.YtgjdlimbkjdhjaaGreatDoor.Pr
set_option linter.unusedVariables false
open Go.RowKit Go.Proofs.YtgjdlimbkjdhjaaGreatDoorW.PrintWords Go.Proofs.YtgjdlimbkjdhjaaGreatDoorW.PrintMore
end Go.Proofs.YtgjdlimbkjdhjaaGreatDoor.Pr
namespace Go.Proofs.YtgjdlimbkjdhjaaGreatDoor.Pr
set_option linter.unusedVariables false
set_option linter.unusedSimpArgs false
end Go.Proofs.YtgjdlimbkjdhjaaGreatDoor.Pr
namespace Go.Proofs.YtgjdlimbkjdhjaaGreatDoor.Pr
set_option linter.unusedVariables false
set_option linter.unusedSimpArgs false
end Go.Proofs.YtgjdlimbkjdhjaaGreatDoor.Pr
namespace Go.Proofs.YtgjdlimbkjdhjaaGreatDoor.Pr
set_option linter.unusedVariables false
set_option linter.unusedSimpArgs false
open Go.RowKit Go.Proofs.YtgjdlimbkjdhjaaGreatDoorW.PrintWords Go.Proofs.YtgjdlimbkjdhjaaGreatDoorW.PrintMore
theorem wN {a : Int} (h0 : -9223372036854775808 ≤ a) (h1 : a ≤ 9223372036854775807) : wrap64 a = a := by unfold wrap64; omega
end Go.Proofs.YtgjdlimbkjdhjaaGreatDoor.Pr
namespace Go.Proofs.YtgjdlimbkjdhjaaGreatDoor.Pr
set_option linter.unusedVariables false
set_option linter.unusedSimpArgs false
open Go.RowKit Go.Proofs.YtgjdlimbkjdhjaaGreatDoorW.PrintWords Go.Proofs.YtgjdlimbkjdhjaaGreatDoorW.PrintMore
end Go.Proofs.YtgjdlimbkjdhjaaGreatDoor.Pr
namespace Go.Proofs.YtgjdlimbkjdhjaaGreatDoor.Pr
set_option linter.unusedVariables false
set_option linter.unusedSimpArgs false
open Go.RowKit Go.Proofs.YtgjdlimbkjdhjaaGreatDoorW.PrintWords Go.Proofs.YtgjdlimbkjdhjaaGreatDoorW.PrintMore
def fitB (n : Int) : Bool := decide (-1000000000000000000 ≤ n ∧ n ≤ 1000000000000000000)
theorem num_Fits_fit (n : Int) : num_Fits.f n = some (fitB n) := by
  unfold num_Fits.f fitB
  by_cases c : n ≥ -1000000000000000000
  · rw [if_pos c]; congr 1; rw [decide_eq_decide]; omega
  · rw [if_neg c]; congr 1; exact (decide_eq_false (by omega)).symm
end Go.Proofs.YtgjdlimbkjdhjaaGreatDoor.Pr
end
section
namespace Go.Proofs.YtgjdlimbkjdhjaaGreatDoor.Pr
set_option linter.unusedVariables false
set_option linter.unusedSimpArgs false
open Go.RowKit Go.Proofs.YtgjdlimbkjdhjaaGreatDoorW.PrintWords Go.Proofs.YtgjdlimbkjdhjaaGreatDoorW.PrintMore
def rightB (K n : Int) (s : List UInt8) (b : Bool) (c : Int) : Bool :=
  if K = 0 then n == 0 && (s == [] && (!b && c == 0))
  else if K = 1 then fitB n && (s == [] && (!b && c == 0))
  else if K = 2 then decide (s.length ≤ 255) && (n == 0 && (!b && c == 0))
  else if K = 3 then n == 0 && (s == [] && c == 0)
  else if K = 4 then decide (1 ≤ c ∧ c ≤ 7) && (n == 0 && (s == [] && !b))
  else false
theorem rightB_cases {K n : Int} {s : List UInt8} {b : Bool} {c : Int} (h : rightB K n s b c = true) :
    (K = 0 ∧ n = 0 ∧ s = [] ∧ b = false ∧ c = 0) ∨ (K = 1 ∧ fitB n = true ∧ s = [] ∧ b = false ∧ c = 0) ∨ (K = 2 ∧ s.length ≤ 255 ∧ n = 0 ∧ b = false ∧ c = 0) ∨ (K = 3 ∧ n = 0 ∧ s = [] ∧ c = 0) ∨ (K = 4 ∧ 1 ≤ c ∧ c ≤ 7 ∧ n = 0 ∧ s = [] ∧ b = false) := by
  unfold rightB at h
  by_cases k0 : K = 0
  · rw [if_pos k0] at h
    simp only [Bool.and_eq_true, beq_iff_eq, Bool.not_eq_true'] at h
    exact Or.inl ⟨k0, h.1, h.2.1, h.2.2.1, h.2.2.2⟩
  rw [if_neg k0] at h
  by_cases k1 : K = 1
  · rw [if_pos k1] at h
    simp only [Bool.and_eq_true, beq_iff_eq, Bool.not_eq_true'] at h
    exact Or.inr (Or.inl ⟨k1, h.1, h.2.1, h.2.2.1, h.2.2.2⟩)
  rw [if_neg k1] at h
  by_cases k2 : K = 2
  · rw [if_pos k2] at h
    simp only [Bool.and_eq_true, beq_iff_eq, Bool.not_eq_true', decide_eq_true_eq] at h
    exact Or.inr (Or.inr (Or.inl ⟨k2, h.1, h.2.1, h.2.2.1, h.2.2.2⟩))
  rw [if_neg k2] at h
  by_cases k3 : K = 3
  · rw [if_pos k3] at h
    simp only [Bool.and_eq_true, beq_iff_eq, Bool.not_eq_true'] at h
    exact Or.inr (Or.inr (Or.inr (Or.inl ⟨k3, h.1, h.2.1, h.2.2⟩)))
  rw [if_neg k3] at h
  by_cases k4 : K = 4
  · rw [if_pos k4] at h
    simp only [Bool.and_eq_true, beq_iff_eq, Bool.not_eq_true', decide_eq_true_eq] at h
    exact Or.inr (Or.inr (Or.inr (Or.inr ⟨k4, h.1.1, h.1.2, h.2.1, h.2.2.1, h.2.2.2⟩)))
  rw [if_neg k4] at h
  cases h
theorem n21 : ¬ ((2 : Int) = 1) := by decide
theorem bl_sz (s : List UInt8) : ((bl s).size : Int) = (s.length : Int) := by rw [bl_size]
theorem value_Check_eq (K n : Int) (s : List UInt8) (b : Bool) (c : Int) : value_Check.f K n (bl s) b c = some (if rightB K n s b c = true then 0 else 2) := by
  unfold value_Check.f rightB
  rw [num_Fits_fit]
  simp only [bl_toList, bl_sz, Option.bind_some]
  by_cases k0 : K = 0
  · simp only [if_pos k0, Bool.and_eq_true, beq_iff_eq, Bool.not_eq_true']
  simp only [if_neg k0]
  by_cases k1 : K = 1
  · simp only [if_pos k1, Bool.and_eq_true, beq_iff_eq, Bool.not_eq_true']
  simp only [if_neg k1]
  by_cases k2 : K = 2
  · simp only [if_pos k2, Bool.and_eq_true, beq_iff_eq, Bool.not_eq_true', decide_eq_true_eq]
    congr 1
    by_cases hl : s.length ≤ 255
    · simp only [hl, show ((s.length : Int) ≤ 255) = True from eq_true (by omega)]
    · simp only [hl, show ((s.length : Int) ≤ 255) = False from eq_false (by omega)]
  simp only [if_neg k2]
  by_cases k3 : K = 3
  · simp only [if_pos k3, Bool.and_eq_true, beq_iff_eq, Bool.not_eq_true']
  simp only [if_neg k3]
  by_cases k4 : K = 4
  · simp only [if_pos k4, Bool.and_eq_true, beq_iff_eq, Bool.not_eq_true', decide_eq_true_eq, and_assoc]
    congr 1
  simp only [if_neg k4]
  rfl
def foldL (l : List UInt8) : List UInt8 := l.map up
theorem value_Fold_eq (l : List UInt8) (h : l.length ≤ 140737488351232) : value_Fold.f (bl l) = some (bl (foldL l)) := by
  unfold value_Fold.f
  rw [if_pos (by rw [bl_size]; exact h)]
  unfold foldB foldL
  rw [bl_data]; rfl
end Go.Proofs.YtgjdlimbkjdhjaaGreatDoor.Pr
namespace Go.Proofs.YtgjdlimbkjdhjaaGreatDoor.Pr
set_option linter.unusedVariables false
set_option linter.unusedSimpArgs false
open Go.RowKit Go.Proofs.YtgjdlimbkjdhjaaGreatDoorW.PrintWords Go.Proofs.YtgjdlimbkjdhjaaGreatDoorW.PrintMore
end Go.Proofs.YtgjdlimbkjdhjaaGreatDoor.Pr
namespace Go.Proofs.YtgjdlimbkjdhjaaGreatDoor.Pr
set_option linter.unusedVariables false
set_option linter.unusedSimpArgs false
open Go.RowKit Go.Proofs.YtgjdlimbkjdhjaaGreatDoorW.PrintWords Go.Proofs.YtgjdlimbkjdhjaaGreatDoorW.PrintMore
def cmpZ (a b : Int) : Int := if a < b then -1 else if b < a then 1 else 0
def rankZ (b : Bool) : Int := if b = true then 1 else 0
theorem cmpZ_self (a : Int) : cmpZ a a = 0 := by unfold cmpZ; rw [if_neg (Int.lt_irrefl a), if_neg (Int.lt_irrefl a)]
theorem cmpZ_zero (a b : Int) : cmpZ a b = 0 ↔ a = b := by unfold cmpZ; split <;> (try split) <;> constructor <;> intro h <;> omega
theorem nan_kind (a : Int) : api_Kind_60.f a = some false := by
  unfold api_Kind_60.f; simp
theorem nan_int (a : Int) : cmp_isNaN_int.f a = some false := by
  unfold cmp_isNaN_int.f; simp
theorem cmp_kind (a b : Int) : api_Kind_42.f a b = some (cmpZ a b) := by
  unfold api_Kind_42.f cmpZ
  rw [nan_kind, nan_kind, Option.bind_some, Option.bind_some, if_neg (by decide), if_neg (by decide)]
  split
  · rfl
  · split <;> rfl
theorem cmp_int (a b : Int) : cmp_Compare_int.f a b = some (cmpZ a b) := by
  unfold cmp_Compare_int.f cmpZ
  rw [nan_int, nan_int, Option.bind_some, Option.bind_some, if_neg (by decide), if_neg (by decide)]
  split
  · rfl
  · split <;> rfl
theorem rank_eq (b : Bool) : value_rank.f b = some (rankZ b) := by cases b <;> rfl
def orZ : List Int → Int
  | [] => 0
  | a :: r => if a = 0 then orZ r else a
theorem or_code (l : List Int) (hl : l.length ≤ 100) : ∀ (r p : List Int) (k : Nat), l = p ++ r → r.length < k → api_Code.l0 k 0 l (l.length : Int) (p.length : Int) = some (orZ r) := by
  intro r
  induction r with
  | nil =>
    intro p k h hk
    obtain ⟨k, rfl⟩ : ∃ m, k = m + 1 := ⟨k - 1, by simp at hk; omega⟩
    simp only [api_Code.l0]
    rw [if_neg (by subst h; simp)]
    rfl
  | cons a r ih =>
    intro p k h hk
    obtain ⟨k, rfl⟩ : ∃ m, k = m + 1 := ⟨k - 1, by simp at hk; omega⟩
    have hlen : l.length = p.length + r.length + 1 := by subst h; simp; omega
    have hrd : rd l (p.length : Int) = a := by subst h; simp [rd]
    simp only [api_Code.l0, hrd]
    rw [if_pos (by omega), if_pos (by omega), if_pos (by omega)]
    unfold orZ
    by_cases e : a = 0
    · rw [if_pos e, if_pos e, wN (by omega) (by omega)]
      have := ih (p ++ [a]) k (by rw [h]; simp) (by simp at hk; omega)
      simpa using this
    · rw [if_neg e, if_neg e]
theorem or_int (l : List Int) (hl : l.length ≤ 100) : ∀ (r p : List Int) (k : Nat), l = p ++ r → r.length < k → cmp_Or_int.l0 k 0 l (l.length : Int) (p.length : Int) = some (orZ r) := by
  intro r
  induction r with
  | nil =>
    intro p k h hk
    obtain ⟨k, rfl⟩ : ∃ m, k = m + 1 := ⟨k - 1, by simp at hk; omega⟩
    simp only [cmp_Or_int.l0]
    rw [if_neg (by subst h; simp)]
    rfl
  | cons a r ih =>
    intro p k h hk
    obtain ⟨k, rfl⟩ : ∃ m, k = m + 1 := ⟨k - 1, by simp at hk; omega⟩
    have hlen : l.length = p.length + r.length + 1 := by subst h; simp; omega
    have hrd : rd l (p.length : Int) = a := by subst h; simp [rd]
    simp only [cmp_Or_int.l0, hrd]
    rw [if_pos (by omega), if_pos (by omega), if_pos (by omega)]
    unfold orZ
    by_cases e : a = 0
    · rw [if_pos e, if_pos e, wN (by omega) (by omega)]
      have := ih (p ++ [a]) k (by rw [h]; simp) (by simp at hk; omega)
      simpa using this
    · rw [if_neg e, if_neg e]
theorem or_code_eq (k : Nat) (l : List Int) (hl : l.length ≤ 100) (hk : l.length < k) : api_Code.f k l = some (orZ l) := or_code l hl l [] k rfl hk
theorem or_int_eq (k : Nat) (l : List Int) (hl : l.length ≤ 100) (hk : l.length < k) : cmp_Or_int.f k l = some (orZ l) := or_int l hl l [] k rfl hk
def bytesZ (a b : List UInt8) : Int := Lib.compareBytes a b
theorem strings_Compare_eq (a b : List UInt8) : strings_Compare.f (bl a) (bl b) = some (bytesZ a b) := by
  unfold strings_Compare.f bytesZ
  rw [bl_data, bl_data]
theorem u8_lt (a b : UInt8) : (a < b) = ((a.toNat : Int) < (b.toNat : Int)) := by
  refine propext ⟨fun h => ?_, fun h => ?_⟩
  · have := UInt8.lt_iff_toNat_lt.mp h; omega
  · exact UInt8.lt_iff_toNat_lt.mpr (by omega)
theorem u8_eq (a b : UInt8) : ((a.toNat : Int) = (b.toNat : Int)) = (a = b) := by
  refine propext ⟨fun h => ?_, fun h => by rw [h]⟩
  exact UInt8.toNat_inj.mp (by omega)
theorem bytesZ_self (a : List UInt8) : bytesZ a a = 0 := by
  induction a with
  | nil => rfl
  | cons x a ih =>
    unfold bytesZ at *
    unfold Lib.compareBytes
    rw [if_neg (UInt8.lt_irrefl x), if_neg (UInt8.lt_irrefl x)]; exact ih
def compareP (K n : Int) (s : List UInt8) (b : Bool) (c : Int) (K' n' : Int) (s' : List UInt8) (b' : Bool) (c' : Int) : Int × Int :=
  if rightB K n s b c = true ∧ rightB K' n' s' b' c' = true then
    (if K = 4 then (0, c) else if K' = 4 then (0, c') else if K = 0 ∧ K' = 0 then (0, 0)
      else if K ≠ K' ∧ K ≠ 0 ∧ K' ≠ 0 then (cmpZ K K', 0)
      else if K = 1 ∨ K' = 1 then (cmpZ n n', 0) else if K = 2 ∨ K' = 2 then (bytesZ (foldL s) (foldL s'), 0) else (cmpZ (rankZ b) (rankZ b'), 0)) else (0, 2)
def alikeP (K n : Int) (s : List UInt8) (b : Bool) (c : Int) (K' n' : Int) (s' : List UInt8) (b' : Bool) (c' : Int) : Bool :=
  rightB K n s b c && (rightB K' n' s' b' c' && (K == K' && (n == n' && (foldL s == foldL s' && (b == b' && (c == c'))))))
theorem right_len {K n : Int} {s : List UInt8} {b : Bool} {c : Int} (h : rightB K n s b c = true) : s.length ≤ 255 := by
  rcases rightB_cases h with ⟨_, _, rfl, _, _⟩ | ⟨_, _, rfl, _, _⟩ | ⟨_, hl, _, _, _⟩ | ⟨_, _, rfl, _⟩ | ⟨_, _, _, _, rfl, _⟩
  all_goals first | exact Nat.zero_le _ | exact hl
theorem value_Alike_eq (k : Nat) (hk : 5 ≤ k) (K n : Int) (s : List UInt8) (b : Bool) (c : Int) (K' n' : Int) (s' : List UInt8) (b' : Bool) (c' : Int) : value_Alike.f k K n (bl s) b c K' n' (bl s') b' c' = some (alikeP K n s b c K' n' s' b' c') := by
  obtain ⟨k, rfl⟩ : ∃ m, k = m + 1 := ⟨k - 1, by omega⟩
  unfold value_Alike.f alikeP
  rw [value_Check_eq, Option.bind_some]
  cases h : rightB K n s b c with
  | false => rfl
  | true =>
    rw [if_pos rfl, if_pos rfl, value_Check_eq, Option.bind_some]
    cases h' : rightB K' n' s' b' c' with
    | false => rfl
    | true =>
      simp only [value_Alike.j0]
      rw [value_Fold_eq s (by have := right_len h; omega), value_Fold_eq s' (by have := right_len h'; omega)]
      simp only [Option.bind_some, bl_toList]
      rfl
theorem value_Compare_j2 (k : Nat) (hk : 10 ≤ k) (K n : Int) (s : List UInt8) (b : Bool) (c : Int) (K' n' : Int) (s' : List UInt8) (b' : Bool) (c' : Int) (hs : s.length ≤ 255) (hs' : s'.length ≤ 255) :
    value_Compare.j2 k K n (bl s) b c K' n' (bl s') b' c' = some (orZ [cmpZ K K', cmpZ n n', bytesZ (foldL s) (foldL s'), cmpZ (rankZ b) (rankZ b')], 0) := by
  obtain ⟨k, rfl⟩ : ∃ m, k = m + 1 := ⟨k - 1, by omega⟩
  simp only [value_Compare.j2]
  rw [cmp_kind, Option.bind_some, cmp_int, Option.bind_some, value_Fold_eq s (by omega), Option.bind_some, value_Fold_eq s' (by omega), Option.bind_some, strings_Compare_eq, Option.bind_some, rank_eq, Option.bind_some, rank_eq, Option.bind_some, cmp_int, Option.bind_some, or_int_eq k _ (by simp) (by simp; omega), Option.bind_some]
theorem value_Compare_j0 (k : Nat) (hk : 20 ≤ k) (K n : Int) (s : List UInt8) (b : Bool) (c : Int) (K' n' : Int) (s' : List UInt8) (b' : Bool) (c' : Int) (hs : s.length ≤ 255) (hs' : s'.length ≤ 255) :
    value_Compare.j0 k false K n (bl s) b c K' n' (bl s') b' c' = some (if orZ [c, c'] = 0 then (orZ [cmpZ (if K = 0 then K' else K) (if K' = 0 then (if K = 0 then K' else K) else K'), cmpZ n n', bytesZ (foldL s) (foldL s'), cmpZ (rankZ b) (rankZ b')], 0) else (0, orZ [c, c'])) := by
  obtain ⟨k, rfl⟩ : ∃ m, k = m + 1 := ⟨k - 1, by omega⟩
  simp only [value_Compare.j0]
  rw [if_neg (by decide), or_code_eq k _ (by simp) (by simp; omega), Option.bind_some]
  obtain ⟨k, rfl⟩ : ∃ m, k = m + 1 := ⟨k - 1, by omega⟩
  by_cases hc : orZ [c, c'] = 0
  · rw [if_pos hc, if_pos hc]
    by_cases h0 : K = 0
    · rw [if_pos h0, if_pos h0]
      simp only [value_Compare.j1]
      by_cases h1 : K' = 0
      · rw [if_pos h1, if_pos h1, value_Compare_j2 k (by omega) _ _ _ _ _ _ _ _ _ _ hs hs']
      · rw [if_neg h1, if_neg h1, value_Compare_j2 k (by omega) _ _ _ _ _ _ _ _ _ _ hs hs']
    · rw [if_neg h0, if_neg h0]
      simp only [value_Compare.j1]
      by_cases h1 : K' = 0
      · rw [if_pos h1, if_pos h1, value_Compare_j2 k (by omega) _ _ _ _ _ _ _ _ _ _ hs hs']
      · rw [if_neg h1, if_neg h1, value_Compare_j2 k (by omega) _ _ _ _ _ _ _ _ _ _ hs hs']
  · rw [if_neg hc, if_neg hc]
theorem bytesZ_nil : bytesZ (foldL []) (foldL []) = 0 := rfl
theorem z12 : cmpZ 1 2 = -1 := by decide
theorem z13 : cmpZ 1 3 = -1 := by decide
theorem z21 : cmpZ 2 1 = 1 := by decide
theorem z23 : cmpZ 2 3 = -1 := by decide
theorem z31 : cmpZ 3 1 = 1 := by decide
theorem z32 : cmpZ 3 2 = 1 := by decide
theorem value_Compare_eq (k : Nat) (hk : 20 ≤ k) (K n : Int) (s : List UInt8) (b : Bool) (c : Int) (K' n' : Int) (s' : List UInt8) (b' : Bool) (c' : Int) : value_Compare.f k K n (bl s) b c K' n' (bl s') b' c' = some (compareP K n s b c K' n' s' b' c') := by
  unfold value_Compare.f compareP
  rw [value_Check_eq, Option.bind_some]
  cases h : rightB K n s b c with
  | false =>
    rw [if_neg (by decide)]
    obtain ⟨k, rfl⟩ : ∃ m, k = m + 1 := ⟨k - 1, by omega⟩
    simp [value_Compare.j0]
  | true =>
    rw [if_pos rfl, if_pos rfl, value_Check_eq, Option.bind_some]
    cases h' : rightB K' n' s' b' c' with
    | false =>
      obtain ⟨k, rfl⟩ : ∃ m, k = m + 1 := ⟨k - 1, by omega⟩
      simp [value_Compare.j0]
    | true =>
      rw [if_pos rfl, show ((0 : Int) != 0) = false from rfl, value_Compare_j0 k hk _ _ _ _ _ _ _ _ _ _ (right_len h) (right_len h'), if_pos (show (true = true ∧ true = true) from ⟨rfl, rfl⟩)]
      have hl := right_len h
      have hl' := right_len h'
      have g := rightB_cases h
      have g' := rightB_cases h'
      clear h h'
      rcases g with ⟨rfl, rfl, rfl, rfl, rfl⟩ | ⟨rfl, hf, rfl, rfl, rfl⟩ | ⟨rfl, hl, rfl, rfl, rfl⟩ | ⟨rfl, rfl, rfl, rfl⟩ | ⟨rfl, h1, h7, rfl, rfl, rfl⟩
      · rcases g' with ⟨rfl, rfl, rfl, rfl, rfl⟩ | ⟨rfl, hf', rfl, rfl, rfl⟩ | ⟨rfl, hl', rfl, rfl, rfl⟩ | ⟨rfl, rfl, rfl, rfl⟩ | ⟨rfl, h1', h7', rfl, rfl, rfl⟩
        · simp [orZ, cmpZ_self, bytesZ_nil, z12, z13, z21, z23, z31, z32]; try exact fun h0 => h0.symm
        · simp [orZ, cmpZ_self, bytesZ_nil, z12, z13, z21, z23, z31, z32]; try exact fun h0 => h0.symm
        · simp [orZ, cmpZ_self, bytesZ_nil, z12, z13, z21, z23, z31, z32]; try exact fun h0 => h0.symm
        · simp [orZ, cmpZ_self, bytesZ_nil, z12, z13, z21, z23, z31, z32]; try exact fun h0 => h0.symm
        · have hc0 : ¬ c' = 0 := by omega
          simp [hc0, orZ, cmpZ_self, bytesZ_nil, z12, z13, z21, z23, z31, z32]
      · rcases g' with ⟨rfl, rfl, rfl, rfl, rfl⟩ | ⟨rfl, hf', rfl, rfl, rfl⟩ | ⟨rfl, hl', rfl, rfl, rfl⟩ | ⟨rfl, rfl, rfl, rfl⟩ | ⟨rfl, h1', h7', rfl, rfl, rfl⟩
        · simp [orZ, cmpZ_self, bytesZ_nil, z12, z13, z21, z23, z31, z32]; try exact fun h0 => h0.symm
        · simp [orZ, cmpZ_self, bytesZ_nil, z12, z13, z21, z23, z31, z32]; try exact fun h0 => h0.symm
        · simp [orZ, cmpZ_self, bytesZ_nil, z12, z13, z21, z23, z31, z32]; try exact fun h0 => h0.symm
        · simp [orZ, cmpZ_self, bytesZ_nil, z12, z13, z21, z23, z31, z32]; try exact fun h0 => h0.symm
        · have hc0 : ¬ c' = 0 := by omega
          simp [hc0, orZ, cmpZ_self, bytesZ_nil, z12, z13, z21, z23, z31, z32]
      · rcases g' with ⟨rfl, rfl, rfl, rfl, rfl⟩ | ⟨rfl, hf', rfl, rfl, rfl⟩ | ⟨rfl, hl', rfl, rfl, rfl⟩ | ⟨rfl, rfl, rfl, rfl⟩ | ⟨rfl, h1', h7', rfl, rfl, rfl⟩
        · simp [orZ, cmpZ_self, bytesZ_nil, z12, z13, z21, z23, z31, z32]; try exact fun h0 => h0.symm
        · simp [orZ, cmpZ_self, bytesZ_nil, z12, z13, z21, z23, z31, z32]; try exact fun h0 => h0.symm
        · simp [orZ, cmpZ_self, bytesZ_nil, z12, z13, z21, z23, z31, z32]; try exact fun h0 => h0.symm
        · simp [orZ, cmpZ_self, bytesZ_nil, z12, z13, z21, z23, z31, z32]; try exact fun h0 => h0.symm
        · have hc0 : ¬ c' = 0 := by omega
          simp [hc0, orZ, cmpZ_self, bytesZ_nil, z12, z13, z21, z23, z31, z32]
      · rcases g' with ⟨rfl, rfl, rfl, rfl, rfl⟩ | ⟨rfl, hf', rfl, rfl, rfl⟩ | ⟨rfl, hl', rfl, rfl, rfl⟩ | ⟨rfl, rfl, rfl, rfl⟩ | ⟨rfl, h1', h7', rfl, rfl, rfl⟩
        · simp [orZ, cmpZ_self, bytesZ_nil, z12, z13, z21, z23, z31, z32]; try exact fun h0 => h0.symm
        · simp [orZ, cmpZ_self, bytesZ_nil, z12, z13, z21, z23, z31, z32]; try exact fun h0 => h0.symm
        · simp [orZ, cmpZ_self, bytesZ_nil, z12, z13, z21, z23, z31, z32]; try exact fun h0 => h0.symm
        · simp [orZ, cmpZ_self, bytesZ_nil, z12, z13, z21, z23, z31, z32]; try exact fun h0 => h0.symm
        · have hc0 : ¬ c' = 0 := by omega
          simp [hc0, orZ, cmpZ_self, bytesZ_nil, z12, z13, z21, z23, z31, z32]
      · rcases g' with ⟨rfl, rfl, rfl, rfl, rfl⟩ | ⟨rfl, hf', rfl, rfl, rfl⟩ | ⟨rfl, hl', rfl, rfl, rfl⟩ | ⟨rfl, rfl, rfl, rfl⟩ | ⟨rfl, h1', h7', rfl, rfl, rfl⟩
        all_goals (have hc0 : ¬ c = 0 := by omega)
        all_goals simp [hc0, orZ, cmpZ_self, bytesZ_nil, z12, z13, z21, z23, z31, z32]
end Go.Proofs.YtgjdlimbkjdhjaaGreatDoor.Pr
namespace Go.Proofs.YtgjdlimbkjdhjaaGreatDoor.Pr
set_option linter.unusedVariables false
set_option linter.unusedSimpArgs false
open Go.RowKit Go.Proofs.YtgjdlimbkjdhjaaGreatDoorW.PrintWords Go.Proofs.YtgjdlimbkjdhjaaGreatDoorW.PrintMore
theorem value_lives' : foolscaplaw04_lives.f 2499 = some true := by decide +kernel
end Go.Proofs.YtgjdlimbkjdhjaaGreatDoor.Pr
end
section
namespace Go.Proofs.YtgjdlimbkjdhjaaGreatDoor.Pr
set_option linter.unusedVariables false
set_option linter.unusedSimpArgs false
open Go.RowKit Go.Proofs.YtgjdlimbkjdhjaaGreatDoorW.PrintWords Go.Proofs.YtgjdlimbkjdhjaaGreatDoorW.PrintMore
def standP (K n : Int) (s : List UInt8) (b : Bool) (c : Int) (K' n' : Int) (s' : List UInt8) (b' : Bool) (c' : Int) : Int × Int :=
  if K = 4 then (0, c) else if K' = 4 then (0, c') else if K = 0 ∧ K' = 0 then (0, 0)
      else if K ≠ K' ∧ K ≠ 0 ∧ K' ≠ 0 then (cmpZ K K', 0)
      else if K = 1 ∨ K' = 1 then (cmpZ n n', 0) else if K = 2 ∨ K' = 2 then (bytesZ (foldL s) (foldL s'), 0) else (cmpZ (rankZ b) (rankZ b'), 0)
theorem compareP_of {K n : Int} {s : List UInt8} {b : Bool} {c : Int} {K' n' : Int} {s' : List UInt8} {b' : Bool} {c' : Int} (h : rightB K n s b c = true) (h' : rightB K' n' s' b' c' = true) : compareP K n s b c K' n' s' b' c' = standP K n s b c K' n' s' b' c' := by
  unfold compareP standP
  rw [if_pos ⟨h, h'⟩]
def stZ (K n : Int) (s : List UInt8) (b : Bool) (K' n' : Int) (s' : List UInt8) (b' : Bool) : Int := if K = K' then (if K = 1 then cmpZ n n' else if K = 2 then bytesZ (foldL s) (foldL s') else cmpZ (rankZ b) (rankZ b')) else cmpZ K K'
theorem standP_fst {K n : Int} {s : List UInt8} {b : Bool} {c : Int} {K' n' : Int} {s' : List UInt8} {b' : Bool} {c' : Int} (h4 : ¬ K = 4) (h4' : ¬ K' = 4) (h0 : ¬ K = 0) (h0' : ¬ K' = 0) : standP K n s b c K' n' s' b' c' = (stZ K n s b K' n' s' b', 0) := by
  unfold standP stZ
  rw [if_neg h4, if_neg h4', if_neg (fun h => h0 h.1)]
  by_cases e : K = K'
  · subst e
    rw [if_neg (fun h => h.1 rfl), if_pos rfl]
    by_cases k1 : K = 1
    · rw [if_pos (Or.inl k1), if_pos k1]
    · rw [if_neg (fun h => h.elim k1 k1), if_neg k1]
      by_cases k2 : K = 2
      · rw [if_pos (Or.inl k2), if_pos k2]
      · rw [if_neg (fun h => h.elim k2 k2), if_neg k2]
  · rw [if_pos ⟨e, h0, h0'⟩, if_neg e]
def TZ (x z w : Int) : Prop := x > 0 ∨ z > 0 ∨ w < 0 ∨ (w = 0 ∧ x = 0 ∧ z = 0)
theorem cmpZ_anti (a b : Int) : cmpZ a b = - cmpZ b a := by unfold cmpZ; repeat' split <;> omega
theorem cmpZ_T (a b c : Int) : TZ (cmpZ a b) (cmpZ b c) (cmpZ a c) := by unfold cmpZ TZ; repeat' split <;> omega
theorem cmpZ_rng (a b : Int) : -1 ≤ cmpZ a b ∧ cmpZ a b ≤ 1 := by unfold cmpZ; repeat' split <;> omega
theorem cons_bytes (x y : UInt8) (a b : List UInt8) : bytesZ (x :: a) (y :: b) = if (x.toNat : Int) = (y.toNat : Int) then bytesZ a b else cmpZ x.toNat y.toNat := by
  unfold bytesZ cmpZ
  conv => lhs; unfold Lib.compareBytes
  simp only [u8_lt]
  by_cases h : (x.toNat : Int) < (y.toNat : Int)
  · rw [if_pos h, if_neg (by omega), if_pos h]
  · rw [if_neg h]
    by_cases h2 : (y.toNat : Int) < (x.toNat : Int)
    · rw [if_pos h2, if_neg (by omega), if_neg h, if_pos h2]
    · rw [if_neg h2, if_pos (by omega)]
theorem bytesZ_rng (a b : List UInt8) : -1 ≤ bytesZ a b ∧ bytesZ a b ≤ 1 := by
  induction a generalizing b with
  | nil => cases b <;> (unfold bytesZ Lib.compareBytes; decide)
  | cons x a ih =>
    cases b with
    | nil => unfold bytesZ Lib.compareBytes; decide
    | cons y b =>
      rw [cons_bytes]
      split
      · exact ih b
      · exact cmpZ_rng _ _
theorem bytesZ_anti (a b : List UInt8) : bytesZ a b = - bytesZ b a := by
  induction a generalizing b with
  | nil => cases b <;> rfl
  | cons x a ih =>
    cases b with
    | nil => rfl
    | cons y b =>
      rw [cons_bytes, cons_bytes]
      by_cases e : (x.toNat : Int) = (y.toNat : Int)
      · rw [if_pos e, if_pos e.symm]; exact ih b
      · rw [if_neg e, if_neg (fun h => e h.symm)]; exact cmpZ_anti _ _
theorem bytesZ_T (a b c : List UInt8) : TZ (bytesZ a b) (bytesZ b c) (bytesZ a c) := by
  induction a generalizing b c with
  | nil =>
    cases c with
    | nil =>
      have h1 := bytesZ_anti [] b
      have h0 : bytesZ [] [] = 0 := rfl
      unfold TZ
      rw [h0, h1]
      omega
    | cons z c =>
      have h0 : bytesZ [] (z :: c) = -1 := rfl
      unfold TZ
      rw [h0]
      omega
  | cons x a ih =>
    cases b with
    | nil =>
      have h0 : bytesZ (x :: a) [] = 1 := rfl
      unfold TZ
      rw [h0]
      omega
    | cons y b =>
      cases c with
      | nil =>
        have h0 : bytesZ (y :: b) [] = 1 := rfl
        unfold TZ
        rw [h0]
        omega
      | cons z c =>
        have h := ih b c
        unfold TZ at h ⊢
        rw [cons_bytes, cons_bytes, cons_bytes]
        unfold cmpZ
        repeat' split
        all_goals omega
theorem bytesZ_nought (a b : List UInt8) : (bytesZ a b = 0) = (a = b) := by
  refine propext ⟨fun h => ?_, fun h => by rw [h]; exact bytesZ_self b⟩
  induction a generalizing b with
  | nil =>
    cases b with
    | nil => rfl
    | cons y b => exact absurd h (by unfold bytesZ Lib.compareBytes; decide)
  | cons x a ih =>
    cases b with
    | nil => exact absurd h (by unfold bytesZ Lib.compareBytes; decide)
    | cons y b =>
      rw [cons_bytes] at h
      by_cases e : (x.toNat : Int) = (y.toNat : Int)
      · rw [if_pos e] at h
        rw [u8_eq] at e
        rw [e, ih b h]
      · rw [if_neg e, cmpZ_zero] at h
        exact absurd h e
theorem stZ_rng (K n : Int) (s : List UInt8) (b : Bool) (K' n' : Int) (s' : List UInt8) (b' : Bool) : -1 ≤ stZ K n s b K' n' s' b' ∧ stZ K n s b K' n' s' b' ≤ 1 := by
  unfold stZ
  repeat' split
  all_goals first | exact cmpZ_rng _ _ | exact bytesZ_rng _ _
theorem stZ_anti (K n : Int) (s : List UInt8) (b : Bool) (K' n' : Int) (s' : List UInt8) (b' : Bool) : stZ K n s b K' n' s' b' = - stZ K' n' s' b' K n s b := by
  unfold stZ
  by_cases e : K = K'
  · subst e
    rw [if_pos rfl, if_pos rfl]
    repeat' split
    all_goals first | exact cmpZ_anti _ _ | exact bytesZ_anti _ _
  · rw [if_neg e, if_neg (fun h => e h.symm)]; exact cmpZ_anti _ _
theorem stZ_T (K n : Int) (s : List UInt8) (b : Bool) (K' n' : Int) (s' : List UInt8) (b' : Bool) (L m : Int) (t : List UInt8) (d : Bool) : TZ (stZ K n s b K' n' s' b') (stZ K' n' s' b' L m t d) (stZ K n s b L m t d) := by
  unfold stZ
  by_cases e1 : K = K'
  · subst e1
    rw [if_pos rfl]
    by_cases e2 : K = L
    · subst e2
      rw [if_pos rfl, if_pos rfl]
      by_cases k1 : K = 1
      · rw [if_pos k1, if_pos k1, if_pos k1]; exact cmpZ_T _ _ _
      · rw [if_neg k1, if_neg k1, if_neg k1]
        by_cases k2 : K = 2
        · rw [if_pos k2, if_pos k2, if_pos k2]; exact bytesZ_T _ _ _
        · rw [if_neg k2, if_neg k2, if_neg k2]; exact cmpZ_T _ _ _
    · rw [if_neg e2, if_neg e2]
      have h1 := cmpZ_zero K L
      have h2 : ¬ cmpZ K L = 0 := fun h => e2 (h1.1 h)
      unfold TZ
      omega
  · rw [if_neg e1]
    by_cases e2 : K' = L
    · subst e2
      rw [if_neg e1]
      unfold TZ
      have h1 := cmpZ_zero K K'
      have h2 : ¬ cmpZ K K' = 0 := fun h => e1 (h1.1 h)
      omega
    · rw [if_neg e2]
      by_cases e3 : K = L
      · subst e3
        unfold TZ
        have h0 := cmpZ_anti K K'
        have h1 := cmpZ_zero K K'
        have : ¬ cmpZ K K' = 0 := fun h => e1 (h1.1 h)
        omega
      · rw [if_neg e3]; exact cmpZ_T _ _ _
theorem rank_inj {b b' : Bool} : (rankZ b = rankZ b') = (b = b') := by cases b <;> cases b' <;> simp [rankZ]
theorem alike_st {K n : Int} {s : List UInt8} {b : Bool} {c : Int} {K' n' : Int} {s' : List UInt8} {b' : Bool} {c' : Int} (h : rightB K n s b c = true) (h' : rightB K' n' s' b' c' = true) (h4 : ¬ K = 4) (h4' : ¬ K' = 4) (h0 : ¬ K = 0) (h0' : ¬ K' = 0) : alikeP K n s b c K' n' s' b' c' = (stZ K n s b K' n' s' b' == 0) := by
  unfold alikeP stZ
  rw [h, h', Bool.eq_iff_iff]
  simp only [Bool.true_and, Bool.and_eq_true, beq_iff_eq]
  by_cases e : K = K'
  · subst e
    rw [if_pos rfl]
    rcases rightB_cases h with ⟨rfl, _⟩ | ⟨rfl, hf, rfl, rfl, rfl⟩ | ⟨rfl, hl, rfl, rfl, rfl⟩ | ⟨rfl, rfl, rfl, rfl⟩ | ⟨rfl, _⟩
    · exact absurd rfl h0
    · rcases rightB_cases h' with ⟨h, _⟩ | ⟨_, hf', rfl, rfl, rfl⟩ | ⟨h, _⟩ | ⟨h, _⟩ | ⟨h, _⟩
      · exact absurd h (by decide)
      · rw [if_pos rfl, cmpZ_zero]; simp
      · exact absurd h (by decide)
      · exact absurd h (by decide)
      · exact absurd h (by decide)
    · rcases rightB_cases h' with ⟨h, _⟩ | ⟨h, _⟩ | ⟨_, hl', rfl, rfl, rfl⟩ | ⟨h, _⟩ | ⟨h, _⟩
      · exact absurd h (by decide)
      · exact absurd h (by decide)
      · rw [if_neg n21, if_pos rfl, bytesZ_nought]; simp
      · exact absurd h (by decide)
      · exact absurd h (by decide)
    · rcases rightB_cases h' with ⟨h, _⟩ | ⟨h, _⟩ | ⟨h, _⟩ | ⟨_, rfl, rfl, rfl⟩ | ⟨h, _⟩
      · exact absurd h (by decide)
      · exact absurd h (by decide)
      · exact absurd h (by decide)
      · rw [if_neg (by decide), if_neg (by decide), cmpZ_zero, rank_inj]; simp
      · exact absurd h (by decide)
    · exact absurd rfl h4
  · rw [if_neg e, cmpZ_zero]
    constructor
    · intro h; exact absurd h.1 e
    · intro h; exact absurd h e
theorem ValueOrder_pure (a0_0 : Int) (a0_1 : Int) (a0_2 : ByteArray) (a0_3 : Bool) (a0_4 : Int) (a1_0 : Int) (a1_1 : Int) (a1_2 : ByteArray) (a1_3 : Bool) (a1_4 : Int) (a2_0 : Int) (a2_1 : Int) (a2_2 : ByteArray) (a2_3 : Bool) (a2_4 : Int) : foolscaplaw04_ValueOrder.f 2500 a0_0 a0_1 a0_2 a0_3 a0_4 a1_0 a1_1 a1_2 a1_3 a1_4 a2_0 a2_1 a2_2 a2_3 a2_4 = some true := by
  rw [← bl_of a0_2, ← bl_of a1_2, ← bl_of a2_2]
  generalize a0_2.data.toList = s
  generalize a1_2.data.toList = s'
  generalize a2_2.data.toList = s''
  have hp : ∀ (K n : Int) (s : List UInt8) (b : Bool) (c : Int), foolscaplaw04_plain.f K n (bl s) b c = some (rightB K n s b c && (K != 4 && K != 0)) := by
    intro K n s b c
    unfold foolscaplaw04_plain.f
    rw [value_Check_eq]
    simp only [Option.bind_some]
    cases rightB K n s b c with
    | false => rfl
    | true =>
      rw [if_pos rfl, if_pos rfl]
      by_cases h4 : K = 4
      · rw [if_pos h4, h4]; rfl
      · rw [if_neg h4, bne_iff_ne.mpr h4]; simp
  have hno : ∀ k, foolscaplaw04_lives.f k = some true → foolscaplaw04_ValueOrder.j0 (k + 1) true a0_0 a0_1 (bl s) a0_3 a0_4 a1_0 a1_1 (bl s') a1_3 a1_4 a2_0 a2_1 (bl s'') a2_3 a2_4 = some true := by
    intro k hk
    simp only [foolscaplaw04_ValueOrder.j0]
    rw [if_pos (by first | trivial | rfl), hk, Option.bind_some]
  unfold foolscaplaw04_ValueOrder.f
  rw [hp, hp, hp]
  simp only [Option.bind_some]
  cases ha : (rightB a0_0 a0_1 s a0_3 a0_4 && (a0_0 != 4 && a0_0 != 0)) with
  | false => rw [if_neg (by decide)]; exact hno 2499 value_lives'
  | true =>
  rw [if_pos rfl]
  cases hb : (rightB a1_0 a1_1 s' a1_3 a1_4 && (a1_0 != 4 && a1_0 != 0)) with
  | false => rw [if_neg (by decide)]; exact hno 2499 value_lives'
  | true =>
  rw [if_pos rfl]
  cases hc : (rightB a2_0 a2_1 s'' a2_3 a2_4 && (a2_0 != 4 && a2_0 != 0)) with
  | false => exact hno 2499 value_lives'
  | true =>
  simp only [Bool.and_eq_true, bne_iff_ne] at ha hb hc
  obtain ⟨ra, ha4, ha0⟩ := ha
  obtain ⟨rb, hb4, hb0⟩ := hb
  obtain ⟨rc, hc4, hc0⟩ := hc
  rw [show (2500 : Nat) = 2499 + 1 from rfl]
  simp only [foolscaplaw04_ValueOrder.j0]
  rw [if_neg (by simp), value_Compare_eq 2499 (by decide), value_Compare_eq 2499 (by decide), value_Compare_eq 2499 (by decide), value_Compare_eq 2499 (by decide), compareP_of ra rb, compareP_of rb ra, compareP_of rb rc, compareP_of ra rc]
  simp only [Option.bind_some]
  have hA := standP_fst ha4 hb4 ha0 hb0 (n := a0_1) (s := s) (b := a0_3) (c := a0_4) (n' := a1_1) (s' := s') (b' := a1_3) (c' := a1_4)
  have hB := standP_fst hb4 ha4 hb0 ha0 (n := a1_1) (s := s') (b := a1_3) (c := a1_4) (n' := a0_1) (s' := s) (b' := a0_3) (c' := a0_4)
  have hC := standP_fst hb4 hc4 hb0 hc0 (n := a1_1) (s := s') (b := a1_3) (c := a1_4) (n' := a2_1) (s' := s'') (b' := a2_3) (c' := a2_4)
  have hD := standP_fst ha4 hc4 ha0 hc0 (n := a0_1) (s := s) (b := a0_3) (c := a0_4) (n' := a2_1) (s' := s'') (b' := a2_3) (c' := a2_4)
  rw [hA, hB, hC, hD]
  have hr := stZ_rng a1_0 a1_1 s' a1_3 a0_0 a0_1 s a0_3
  have hanti := stZ_anti a0_0 a0_1 s a0_3 a1_0 a1_1 s' a1_3
  have hT := stZ_T a0_0 a0_1 s a0_3 a1_0 a1_1 s' a1_3 a2_0 a2_1 s'' a2_3
  rw [if_pos (by first | trivial | rfl), if_pos (by first | trivial | rfl), if_pos (by first | trivial | rfl), if_pos (by first | trivial | rfl), wN (by omega) (by omega), if_pos hanti, value_Alike_eq 2499 (by decide), alike_st ra rb ha4 hb4 ha0 hb0]
  simp only [Option.bind_some]
  rw [if_neg (by simp)]
  rw [value_lives']
  simp only [Option.bind_some]
  generalize stZ a0_0 a0_1 s a0_3 a1_0 a1_1 s' a1_3 = x at hT
  generalize stZ a1_0 a1_1 s' a1_3 a2_0 a2_1 s'' a2_3 = z at hT
  generalize stZ a0_0 a0_1 s a0_3 a2_0 a2_1 s'' a2_3 = v at hT
  unfold TZ at hT
  by_cases c1 : x > 0
  · rw [if_pos c1]
  rw [if_neg c1]
  by_cases c2 : z > 0
  · rw [if_pos c2]
  rw [if_neg c2]
  by_cases c3 : v < 0
  · rw [if_pos c3]
  rw [if_neg c3, if_pos (by omega), if_pos (by omega), if_pos (by omega)]
theorem ValueOrder_walk (a0_0 : Int) (a0_1 : Int) (a0_2 : ByteArray) (a0_3 : Bool) (a0_4 : Int) (a1_0 : Int) (a1_1 : Int) (a1_2 : ByteArray) (a1_3 : Bool) (a1_4 : Int) (a2_0 : Int) (a2_1 : Int) (a2_2 : ByteArray) (a2_3 : Bool) (a2_4 : Int) (w : World) (y0_0 : (Lit.int .i64 a0_0).wf = true) (y0_1 : (Lit.int .i64 a0_1).wf = true) (z0 : a0_2.size ≤ 140737488351232) (y0_4 : (Lit.int .i64 a0_4).wf = true) (y1_0 : (Lit.int .i64 a1_0).wf = true) (y1_1 : (Lit.int .i64 a1_1).wf = true) (z1 : a1_2.size ≤ 140737488351232) (y1_4 : (Lit.int .i64 a1_4).wf = true) (y2_0 : (Lit.int .i64 a2_0).wf = true) (y2_1 : (Lit.int .i64 a2_1).wf = true) (z2 : a2_2.size ≤ 140737488351232) (y2_4 : (Lit.int .i64 a2_4).wf = true) (hL : Aside0 (LaidW w)) :
    Calls Tryz.prog 7 #[.agg #[.int .i64 a0_0, .int .i64 a0_1, .string a0_2, .bool a0_3, .int .i64 a0_4], .agg #[.int .i64 a1_0, .int .i64 a1_1, .string a1_2, .bool a1_3, .int .i64 a1_4], .agg #[.int .i64 a2_0, .int .i64 a2_1, .string a2_2, .bool a2_3, .int .i64 a2_4]] w fun e w' => e = .returned (.bool true) ∧ Below w.heap.size w w' :=
  foolscaplaw04_ValueOrder.calls 2500 a0_0 a0_1 a0_2 a0_3 a0_4 a1_0 a1_1 a1_2 a1_3 a1_4 a2_0 a2_1 a2_2 a2_3 a2_4 true w (ValueOrder_pure a0_0 a0_1 a0_2 a0_3 a0_4 a1_0 a1_1 a1_2 a1_3 a1_4 a2_0 a2_1 a2_2 a2_3 a2_4) hL
end Go.Proofs.YtgjdlimbkjdhjaaGreatDoor.Pr
end
