/-
  What the law ValueBlank leans on, out of the texts that were printed and written for this seat: only what its proof mentions (gathered by a program of the author's).
-/
import Derived.Test.YtgjdlimbkjdhjaaGreatDoorSValueBlank4
import Derived.Test.YtgjdlimbkjdhjaaGreatDoorSValueBlank11
import Derived.Test.YtgjdlimbkjdhjaaGreatDoorSValueBlank12
import Derived.Test.YtgjdlimbkjdhjaaGreatDoorSValueBlank13
import Derived.Test.YtgjdlimbkjdhjaaGreatDoorSValueBlank5
import Derived.Test.YtgjdlimbkjdhjaaGreatDoorSValueBlank6
import Derived.Test.YtgjdlimbkjdhjaaGreatDoorSValueBlank10
import Derived.Test.YtgjdlimbkjdhjaaGreatDoorSValueBlank9
import Derived.Test.YtgjdlimbkjdhjaaGreatDoorSValueBlank14
import Derived.Laws.BytesArg
import Derived.Lib.IndexLaws
import Derived.Lib.ItoaNum
import Derived.Lib.ParseIntB
import Derived.Lib.Repeat
import Derived.Lib.SlTrimSet
import Derived.Lib.Strings
import Derived.WalkKit
import Derived.Lib.Bytealg
section
namespace Go.Proofs.YtgjdlimbkjdhjaaGreatDoor.Pr
set_option linter.unusedVariables false
def bl (l : List UInt8) : ByteArray := ⟨l.toArray⟩
theorem bl_size (a : List UInt8) : (bl a).size = a.length := by simp [bl, ByteArray.size]
theorem bl_toList (a : List UInt8) : (bl a).toList = a := by rw [Lib.toList_data]; simp [bl]
theorem bl_data (a : List UInt8) : (bl a).data.toList = a := by simp [bl]
theorem bl_of (s : ByteArray) : bl s.data.toList = s := by apply ByteArray.ext; simp [bl]
end Go.Proofs.YtgjdlimbkjdhjaaGreatDoor.Pr
namespace Go.Proofs.YtgjdlimbkjdhjaaGreatDoor.Pr
set_option linter.unusedVariables false
open Go.RowKit Go.Proofs.YtgjdlimbkjdhjaaGreatDoorW.PrintWords Go.Proofs.YtgjdlimbkjdhjaaGreatDoorW.PrintMore
end Go.Proofs.YtgjdlimbkjdhjaaGreatDoor.Pr
namespace Go.Proofs.YtgjdlimbkjdhjaaGreatDoor.Pr
set_option linter.unusedVariables false
set_option linter.unusedSimpArgs false
end Go.Proofs.YtgjdlimbkjdhjaaGreatDoor.Pr
namespace Go.Proofs.YtgjdlimbkjdhjaaGreatDoor.Pr
set_option linter.unusedVariables false
set_option linter.unusedSimpArgs false
end Go.Proofs.YtgjdlimbkjdhjaaGreatDoor.Pr
namespace Go.Proofs.YtgjdlimbkjdhjaaGreatDoor.Pr
set_option linter.unusedVariables false
set_option linter.unusedSimpArgs false
open Go.RowKit Go.Proofs.YtgjdlimbkjdhjaaGreatDoorW.PrintWords Go.Proofs.YtgjdlimbkjdhjaaGreatDoorW.PrintMore
theorem wN {a : Int} (h0 : -9223372036854775808 ≤ a) (h1 : a ≤ 9223372036854775807) : wrap64 a = a := by unfold wrap64; omega
end Go.Proofs.YtgjdlimbkjdhjaaGreatDoor.Pr
namespace Go.Proofs.YtgjdlimbkjdhjaaGreatDoor.Pr
set_option linter.unusedVariables false
set_option linter.unusedSimpArgs false
open Go.RowKit Go.Proofs.YtgjdlimbkjdhjaaGreatDoorW.PrintWords Go.Proofs.YtgjdlimbkjdhjaaGreatDoorW.PrintMore
end Go.Proofs.YtgjdlimbkjdhjaaGreatDoor.Pr
namespace Go.Proofs.YtgjdlimbkjdhjaaGreatDoor.Pr
set_option linter.unusedVariables false
set_option linter.unusedSimpArgs false
open Go.RowKit Go.Proofs.YtgjdlimbkjdhjaaGreatDoorW.PrintWords Go.Proofs.YtgjdlimbkjdhjaaGreatDoorW.PrintMore
def fitB (n : Int) : Bool := decide (-1000000000000000000 ≤ n ∧ n ≤ 1000000000000000000)
theorem num_Fits_fit (n : Int) : num_Fits.f n = some (fitB n) := by
  unfold num_Fits.f fitB
  by_cases c : n ≥ -1000000000000000000
  · rw [if_pos c]; congr 1; rw [decide_eq_decide]; omega
  · rw [if_neg c]; congr 1; exact (decide_eq_false (by omega)).symm
end Go.Proofs.YtgjdlimbkjdhjaaGreatDoor.Pr
end
section
namespace Go.Proofs.YtgjdlimbkjdhjaaGreatDoor.Pr
set_option linter.unusedVariables false
set_option linter.unusedSimpArgs false
open Go.RowKit Go.Proofs.YtgjdlimbkjdhjaaGreatDoorW.PrintWords Go.Proofs.YtgjdlimbkjdhjaaGreatDoorW.PrintMore
def rightB (K n : Int) (s : List UInt8) (b : Bool) (c : Int) : Bool :=
  if K = 0 then n == 0 && (s == [] && (!b && c == 0))
  else if K = 1 then fitB n && (s == [] && (!b && c == 0))
  else if K = 2 then decide (s.length ≤ 255) && (n == 0 && (!b && c == 0))
  else if K = 3 then n == 0 && (s == [] && c == 0)
  else if K = 4 then decide (1 ≤ c ∧ c ≤ 7) && (n == 0 && (s == [] && !b))
  else false
theorem rightB_cases {K n : Int} {s : List UInt8} {b : Bool} {c : Int} (h : rightB K n s b c = true) :
    (K = 0 ∧ n = 0 ∧ s = [] ∧ b = false ∧ c = 0) ∨ (K = 1 ∧ fitB n = true ∧ s = [] ∧ b = false ∧ c = 0) ∨ (K = 2 ∧ s.length ≤ 255 ∧ n = 0 ∧ b = false ∧ c = 0) ∨ (K = 3 ∧ n = 0 ∧ s = [] ∧ c = 0) ∨ (K = 4 ∧ 1 ≤ c ∧ c ≤ 7 ∧ n = 0 ∧ s = [] ∧ b = false) := by
  unfold rightB at h
  by_cases k0 : K = 0
  · rw [if_pos k0] at h
    simp only [Bool.and_eq_true, beq_iff_eq, Bool.not_eq_true'] at h
    exact Or.inl ⟨k0, h.1, h.2.1, h.2.2.1, h.2.2.2⟩
  rw [if_neg k0] at h
  by_cases k1 : K = 1
  · rw [if_pos k1] at h
    simp only [Bool.and_eq_true, beq_iff_eq, Bool.not_eq_true'] at h
    exact Or.inr (Or.inl ⟨k1, h.1, h.2.1, h.2.2.1, h.2.2.2⟩)
  rw [if_neg k1] at h
  by_cases k2 : K = 2
  · rw [if_pos k2] at h
    simp only [Bool.and_eq_true, beq_iff_eq, Bool.not_eq_true', decide_eq_true_eq] at h
    exact Or.inr (Or.inr (Or.inl ⟨k2, h.1, h.2.1, h.2.2.1, h.2.2.2⟩))
  rw [if_neg k2] at h
  by_cases k3 : K = 3
  · rw [if_pos k3] at h
    simp only [Bool.and_eq_true, beq_iff_eq, Bool.not_eq_true'] at h
    exact Or.inr (Or.inr (Or.inr (Or.inl ⟨k3, h.1, h.2.1, h.2.2⟩)))
  rw [if_neg k3] at h
  by_cases k4 : K = 4
  · rw [if_pos k4] at h
    simp only [Bool.and_eq_true, beq_iff_eq, Bool.not_eq_true', decide_eq_true_eq] at h
    exact Or.inr (Or.inr (Or.inr (Or.inr ⟨k4, h.1.1, h.1.2, h.2.1, h.2.2.1, h.2.2.2⟩)))
  rw [if_neg k4] at h
  cases h
theorem bl_sz (s : List UInt8) : ((bl s).size : Int) = (s.length : Int) := by rw [bl_size]
theorem value_Check_eq (K n : Int) (s : List UInt8) (b : Bool) (c : Int) : value_Check.f K n (bl s) b c = some (if rightB K n s b c = true then 0 else 2) := by
  unfold value_Check.f rightB
  rw [num_Fits_fit]
  simp only [bl_toList, bl_sz, Option.bind_some]
  by_cases k0 : K = 0
  · simp only [if_pos k0, Bool.and_eq_true, beq_iff_eq, Bool.not_eq_true']
  simp only [if_neg k0]
  by_cases k1 : K = 1
  · simp only [if_pos k1, Bool.and_eq_true, beq_iff_eq, Bool.not_eq_true']
  simp only [if_neg k1]
  by_cases k2 : K = 2
  · simp only [if_pos k2, Bool.and_eq_true, beq_iff_eq, Bool.not_eq_true', decide_eq_true_eq]
    congr 1
    by_cases hl : s.length ≤ 255
    · simp only [hl, show ((s.length : Int) ≤ 255) = True from eq_true (by omega)]
    · simp only [hl, show ((s.length : Int) ≤ 255) = False from eq_false (by omega)]
  simp only [if_neg k2]
  by_cases k3 : K = 3
  · simp only [if_pos k3, Bool.and_eq_true, beq_iff_eq, Bool.not_eq_true']
  simp only [if_neg k3]
  by_cases k4 : K = 4
  · simp only [if_pos k4, Bool.and_eq_true, beq_iff_eq, Bool.not_eq_true', decide_eq_true_eq, and_assoc]
    congr 1
  simp only [if_neg k4]
  rfl
def foldL (l : List UInt8) : List UInt8 := l.map up
theorem value_Fold_eq (l : List UInt8) (h : l.length ≤ 140737488351232) : value_Fold.f (bl l) = some (bl (foldL l)) := by
  unfold value_Fold.f
  rw [if_pos (by rw [bl_size]; exact h)]
  unfold foldB foldL
  rw [bl_data]; rfl
end Go.Proofs.YtgjdlimbkjdhjaaGreatDoor.Pr
namespace Go.Proofs.YtgjdlimbkjdhjaaGreatDoor.Pr
set_option linter.unusedVariables false
set_option linter.unusedSimpArgs false
open Go.RowKit Go.Proofs.YtgjdlimbkjdhjaaGreatDoorW.PrintWords Go.Proofs.YtgjdlimbkjdhjaaGreatDoorW.PrintMore
end Go.Proofs.YtgjdlimbkjdhjaaGreatDoor.Pr
namespace Go.Proofs.YtgjdlimbkjdhjaaGreatDoor.Pr
set_option linter.unusedVariables false
set_option linter.unusedSimpArgs false
open Go.RowKit Go.Proofs.YtgjdlimbkjdhjaaGreatDoorW.PrintWords Go.Proofs.YtgjdlimbkjdhjaaGreatDoorW.PrintMore
def cmpZ (a b : Int) : Int := if a < b then -1 else if b < a then 1 else 0
def rankZ (b : Bool) : Int := if b = true then 1 else 0
theorem cmpZ_self (a : Int) : cmpZ a a = 0 := by unfold cmpZ; rw [if_neg (Int.lt_irrefl a), if_neg (Int.lt_irrefl a)]
theorem nan_kind (a : Int) : api_Kind_60.f a = some false := by
  unfold api_Kind_60.f; simp
theorem nan_int (a : Int) : cmp_isNaN_int.f a = some false := by
  unfold cmp_isNaN_int.f; simp
theorem cmp_kind (a b : Int) : api_Kind_42.f a b = some (cmpZ a b) := by
  unfold api_Kind_42.f cmpZ
  rw [nan_kind, nan_kind, Option.bind_some, Option.bind_some, if_neg (by decide), if_neg (by decide)]
  split
  · rfl
  · split <;> rfl
theorem cmp_int (a b : Int) : cmp_Compare_int.f a b = some (cmpZ a b) := by
  unfold cmp_Compare_int.f cmpZ
  rw [nan_int, nan_int, Option.bind_some, Option.bind_some, if_neg (by decide), if_neg (by decide)]
  split
  · rfl
  · split <;> rfl
theorem rank_eq (b : Bool) : value_rank.f b = some (rankZ b) := by cases b <;> rfl
def orZ : List Int → Int
  | [] => 0
  | a :: r => if a = 0 then orZ r else a
theorem or_code (l : List Int) (hl : l.length ≤ 100) : ∀ (r p : List Int) (k : Nat), l = p ++ r → r.length < k → api_Code.l0 k 0 l (l.length : Int) (p.length : Int) = some (orZ r) := by
  intro r
  induction r with
  | nil =>
    intro p k h hk
    obtain ⟨k, rfl⟩ : ∃ m, k = m + 1 := ⟨k - 1, by simp at hk; omega⟩
    simp only [api_Code.l0]
    rw [if_neg (by subst h; simp)]
    rfl
  | cons a r ih =>
    intro p k h hk
    obtain ⟨k, rfl⟩ : ∃ m, k = m + 1 := ⟨k - 1, by simp at hk; omega⟩
    have hlen : l.length = p.length + r.length + 1 := by subst h; simp; omega
    have hrd : rd l (p.length : Int) = a := by subst h; simp [rd]
    simp only [api_Code.l0, hrd]
    rw [if_pos (by omega), if_pos (by omega), if_pos (by omega)]
    unfold orZ
    by_cases e : a = 0
    · rw [if_pos e, if_pos e, wN (by omega) (by omega)]
      have := ih (p ++ [a]) k (by rw [h]; simp) (by simp at hk; omega)
      simpa using this
    · rw [if_neg e, if_neg e]
theorem or_int (l : List Int) (hl : l.length ≤ 100) : ∀ (r p : List Int) (k : Nat), l = p ++ r → r.length < k → cmp_Or_int.l0 k 0 l (l.length : Int) (p.length : Int) = some (orZ r) := by
  intro r
  induction r with
  | nil =>
    intro p k h hk
    obtain ⟨k, rfl⟩ : ∃ m, k = m + 1 := ⟨k - 1, by simp at hk; omega⟩
    simp only [cmp_Or_int.l0]
    rw [if_neg (by subst h; simp)]
    rfl
  | cons a r ih =>
    intro p k h hk
    obtain ⟨k, rfl⟩ : ∃ m, k = m + 1 := ⟨k - 1, by simp at hk; omega⟩
    have hlen : l.length = p.length + r.length + 1 := by subst h; simp; omega
    have hrd : rd l (p.length : Int) = a := by subst h; simp [rd]
    simp only [cmp_Or_int.l0, hrd]
    rw [if_pos (by omega), if_pos (by omega), if_pos (by omega)]
    unfold orZ
    by_cases e : a = 0
    · rw [if_pos e, if_pos e, wN (by omega) (by omega)]
      have := ih (p ++ [a]) k (by rw [h]; simp) (by simp at hk; omega)
      simpa using this
    · rw [if_neg e, if_neg e]
theorem or_code_eq (k : Nat) (l : List Int) (hl : l.length ≤ 100) (hk : l.length < k) : api_Code.f k l = some (orZ l) := or_code l hl l [] k rfl hk
theorem or_int_eq (k : Nat) (l : List Int) (hl : l.length ≤ 100) (hk : l.length < k) : cmp_Or_int.f k l = some (orZ l) := or_int l hl l [] k rfl hk
def bytesZ (a b : List UInt8) : Int := Lib.compareBytes a b
theorem strings_Compare_eq (a b : List UInt8) : strings_Compare.f (bl a) (bl b) = some (bytesZ a b) := by
  unfold strings_Compare.f bytesZ
  rw [bl_data, bl_data]
def compareP (K n : Int) (s : List UInt8) (b : Bool) (c : Int) (K' n' : Int) (s' : List UInt8) (b' : Bool) (c' : Int) : Int × Int :=
  if rightB K n s b c = true ∧ rightB K' n' s' b' c' = true then
    (if K = 4 then (0, c) else if K' = 4 then (0, c') else if K = 0 ∧ K' = 0 then (0, 0)
      else if K ≠ K' ∧ K ≠ 0 ∧ K' ≠ 0 then (cmpZ K K', 0)
      else if K = 1 ∨ K' = 1 then (cmpZ n n', 0) else if K = 2 ∨ K' = 2 then (bytesZ (foldL s) (foldL s'), 0) else (cmpZ (rankZ b) (rankZ b'), 0)) else (0, 2)
theorem right_len {K n : Int} {s : List UInt8} {b : Bool} {c : Int} (h : rightB K n s b c = true) : s.length ≤ 255 := by
  rcases rightB_cases h with ⟨_, _, rfl, _, _⟩ | ⟨_, _, rfl, _, _⟩ | ⟨_, hl, _, _, _⟩ | ⟨_, _, rfl, _⟩ | ⟨_, _, _, _, rfl, _⟩
  all_goals first | exact Nat.zero_le _ | exact hl
theorem value_Compare_j2 (k : Nat) (hk : 10 ≤ k) (K n : Int) (s : List UInt8) (b : Bool) (c : Int) (K' n' : Int) (s' : List UInt8) (b' : Bool) (c' : Int) (hs : s.length ≤ 255) (hs' : s'.length ≤ 255) :
    value_Compare.j2 k K n (bl s) b c K' n' (bl s') b' c' = some (orZ [cmpZ K K', cmpZ n n', bytesZ (foldL s) (foldL s'), cmpZ (rankZ b) (rankZ b')], 0) := by
  obtain ⟨k, rfl⟩ : ∃ m, k = m + 1 := ⟨k - 1, by omega⟩
  simp only [value_Compare.j2]
  rw [cmp_kind, Option.bind_some, cmp_int, Option.bind_some, value_Fold_eq s (by omega), Option.bind_some, value_Fold_eq s' (by omega), Option.bind_some, strings_Compare_eq, Option.bind_some, rank_eq, Option.bind_some, rank_eq, Option.bind_some, cmp_int, Option.bind_some, or_int_eq k _ (by simp) (by simp; omega), Option.bind_some]
theorem value_Compare_j0 (k : Nat) (hk : 20 ≤ k) (K n : Int) (s : List UInt8) (b : Bool) (c : Int) (K' n' : Int) (s' : List UInt8) (b' : Bool) (c' : Int) (hs : s.length ≤ 255) (hs' : s'.length ≤ 255) :
    value_Compare.j0 k false K n (bl s) b c K' n' (bl s') b' c' = some (if orZ [c, c'] = 0 then (orZ [cmpZ (if K = 0 then K' else K) (if K' = 0 then (if K = 0 then K' else K) else K'), cmpZ n n', bytesZ (foldL s) (foldL s'), cmpZ (rankZ b) (rankZ b')], 0) else (0, orZ [c, c'])) := by
  obtain ⟨k, rfl⟩ : ∃ m, k = m + 1 := ⟨k - 1, by omega⟩
  simp only [value_Compare.j0]
  rw [if_neg (by decide), or_code_eq k _ (by simp) (by simp; omega), Option.bind_some]
  obtain ⟨k, rfl⟩ : ∃ m, k = m + 1 := ⟨k - 1, by omega⟩
  by_cases hc : orZ [c, c'] = 0
  · rw [if_pos hc, if_pos hc]
    by_cases h0 : K = 0
    · rw [if_pos h0, if_pos h0]
      simp only [value_Compare.j1]
      by_cases h1 : K' = 0
      · rw [if_pos h1, if_pos h1, value_Compare_j2 k (by omega) _ _ _ _ _ _ _ _ _ _ hs hs']
      · rw [if_neg h1, if_neg h1, value_Compare_j2 k (by omega) _ _ _ _ _ _ _ _ _ _ hs hs']
    · rw [if_neg h0, if_neg h0]
      simp only [value_Compare.j1]
      by_cases h1 : K' = 0
      · rw [if_pos h1, if_pos h1, value_Compare_j2 k (by omega) _ _ _ _ _ _ _ _ _ _ hs hs']
      · rw [if_neg h1, if_neg h1, value_Compare_j2 k (by omega) _ _ _ _ _ _ _ _ _ _ hs hs']
  · rw [if_neg hc, if_neg hc]
theorem bytesZ_nil : bytesZ (foldL []) (foldL []) = 0 := rfl
theorem z12 : cmpZ 1 2 = -1 := by decide
theorem z13 : cmpZ 1 3 = -1 := by decide
theorem z21 : cmpZ 2 1 = 1 := by decide
theorem z23 : cmpZ 2 3 = -1 := by decide
theorem z31 : cmpZ 3 1 = 1 := by decide
theorem z32 : cmpZ 3 2 = 1 := by decide
theorem value_Compare_eq (k : Nat) (hk : 20 ≤ k) (K n : Int) (s : List UInt8) (b : Bool) (c : Int) (K' n' : Int) (s' : List UInt8) (b' : Bool) (c' : Int) : value_Compare.f k K n (bl s) b c K' n' (bl s') b' c' = some (compareP K n s b c K' n' s' b' c') := by
  unfold value_Compare.f compareP
  rw [value_Check_eq, Option.bind_some]
  cases h : rightB K n s b c with
  | false =>
    rw [if_neg (by decide)]
    obtain ⟨k, rfl⟩ : ∃ m, k = m + 1 := ⟨k - 1, by omega⟩
    simp [value_Compare.j0]
  | true =>
    rw [if_pos rfl, if_pos rfl, value_Check_eq, Option.bind_some]
    cases h' : rightB K' n' s' b' c' with
    | false =>
      obtain ⟨k, rfl⟩ : ∃ m, k = m + 1 := ⟨k - 1, by omega⟩
      simp [value_Compare.j0]
    | true =>
      rw [if_pos rfl, show ((0 : Int) != 0) = false from rfl, value_Compare_j0 k hk _ _ _ _ _ _ _ _ _ _ (right_len h) (right_len h'), if_pos (show (true = true ∧ true = true) from ⟨rfl, rfl⟩)]
      have hl := right_len h
      have hl' := right_len h'
      have g := rightB_cases h
      have g' := rightB_cases h'
      clear h h'
      rcases g with ⟨rfl, rfl, rfl, rfl, rfl⟩ | ⟨rfl, hf, rfl, rfl, rfl⟩ | ⟨rfl, hl, rfl, rfl, rfl⟩ | ⟨rfl, rfl, rfl, rfl⟩ | ⟨rfl, h1, h7, rfl, rfl, rfl⟩
      · rcases g' with ⟨rfl, rfl, rfl, rfl, rfl⟩ | ⟨rfl, hf', rfl, rfl, rfl⟩ | ⟨rfl, hl', rfl, rfl, rfl⟩ | ⟨rfl, rfl, rfl, rfl⟩ | ⟨rfl, h1', h7', rfl, rfl, rfl⟩
        · simp [orZ, cmpZ_self, bytesZ_nil, z12, z13, z21, z23, z31, z32]; try exact fun h0 => h0.symm
        · simp [orZ, cmpZ_self, bytesZ_nil, z12, z13, z21, z23, z31, z32]; try exact fun h0 => h0.symm
        · simp [orZ, cmpZ_self, bytesZ_nil, z12, z13, z21, z23, z31, z32]; try exact fun h0 => h0.symm
        · simp [orZ, cmpZ_self, bytesZ_nil, z12, z13, z21, z23, z31, z32]; try exact fun h0 => h0.symm
        · have hc0 : ¬ c' = 0 := by omega
          simp [hc0, orZ, cmpZ_self, bytesZ_nil, z12, z13, z21, z23, z31, z32]
      · rcases g' with ⟨rfl, rfl, rfl, rfl, rfl⟩ | ⟨rfl, hf', rfl, rfl, rfl⟩ | ⟨rfl, hl', rfl, rfl, rfl⟩ | ⟨rfl, rfl, rfl, rfl⟩ | ⟨rfl, h1', h7', rfl, rfl, rfl⟩
        · simp [orZ, cmpZ_self, bytesZ_nil, z12, z13, z21, z23, z31, z32]; try exact fun h0 => h0.symm
        · simp [orZ, cmpZ_self, bytesZ_nil, z12, z13, z21, z23, z31, z32]; try exact fun h0 => h0.symm
        · simp [orZ, cmpZ_self, bytesZ_nil, z12, z13, z21, z23, z31, z32]; try exact fun h0 => h0.symm
        · simp [orZ, cmpZ_self, bytesZ_nil, z12, z13, z21, z23, z31, z32]; try exact fun h0 => h0.symm
        · have hc0 : ¬ c' = 0 := by omega
          simp [hc0, orZ, cmpZ_self, bytesZ_nil, z12, z13, z21, z23, z31, z32]
      · rcases g' with ⟨rfl, rfl, rfl, rfl, rfl⟩ | ⟨rfl, hf', rfl, rfl, rfl⟩ | ⟨rfl, hl', rfl, rfl, rfl⟩ | ⟨rfl, rfl, rfl, rfl⟩ | ⟨rfl, h1', h7', rfl, rfl, rfl⟩
        · simp [orZ, cmpZ_self, bytesZ_nil, z12, z13, z21, z23, z31, z32]; try exact fun h0 => h0.symm
        · simp [orZ, cmpZ_self, bytesZ_nil, z12, z13, z21, z23, z31, z32]; try exact fun h0 => h0.symm
        · simp [orZ, cmpZ_self, bytesZ_nil, z12, z13, z21, z23, z31, z32]; try exact fun h0 => h0.symm
        · simp [orZ, cmpZ_self, bytesZ_nil, z12, z13, z21, z23, z31, z32]; try exact fun h0 => h0.symm
        · have hc0 : ¬ c' = 0 := by omega
          simp [hc0, orZ, cmpZ_self, bytesZ_nil, z12, z13, z21, z23, z31, z32]
      · rcases g' with ⟨rfl, rfl, rfl, rfl, rfl⟩ | ⟨rfl, hf', rfl, rfl, rfl⟩ | ⟨rfl, hl', rfl, rfl, rfl⟩ | ⟨rfl, rfl, rfl, rfl⟩ | ⟨rfl, h1', h7', rfl, rfl, rfl⟩
        · simp [orZ, cmpZ_self, bytesZ_nil, z12, z13, z21, z23, z31, z32]; try exact fun h0 => h0.symm
        · simp [orZ, cmpZ_self, bytesZ_nil, z12, z13, z21, z23, z31, z32]; try exact fun h0 => h0.symm
        · simp [orZ, cmpZ_self, bytesZ_nil, z12, z13, z21, z23, z31, z32]; try exact fun h0 => h0.symm
        · simp [orZ, cmpZ_self, bytesZ_nil, z12, z13, z21, z23, z31, z32]; try exact fun h0 => h0.symm
        · have hc0 : ¬ c' = 0 := by omega
          simp [hc0, orZ, cmpZ_self, bytesZ_nil, z12, z13, z21, z23, z31, z32]
      · rcases g' with ⟨rfl, rfl, rfl, rfl, rfl⟩ | ⟨rfl, hf', rfl, rfl, rfl⟩ | ⟨rfl, hl', rfl, rfl, rfl⟩ | ⟨rfl, rfl, rfl, rfl⟩ | ⟨rfl, h1', h7', rfl, rfl, rfl⟩
        all_goals (have hc0 : ¬ c = 0 := by omega)
        all_goals simp [hc0, orZ, cmpZ_self, bytesZ_nil, z12, z13, z21, z23, z31, z32]
end Go.Proofs.YtgjdlimbkjdhjaaGreatDoor.Pr
namespace Go.Proofs.YtgjdlimbkjdhjaaGreatDoor.Pr
set_option linter.unusedVariables false
set_option linter.unusedSimpArgs false
open Go.RowKit Go.Proofs.YtgjdlimbkjdhjaaGreatDoorW.PrintWords Go.Proofs.YtgjdlimbkjdhjaaGreatDoorW.PrintMore
theorem value_lives : foolscaplaw04_lives.f 2500 = some true := by decide +kernel
end Go.Proofs.YtgjdlimbkjdhjaaGreatDoor.Pr
end
section
namespace Go.Proofs.YtgjdlimbkjdhjaaGreatDoor.Pr
set_option linter.unusedVariables false
set_option linter.unusedSimpArgs false
open Go.RowKit Go.Proofs.YtgjdlimbkjdhjaaGreatDoorW.PrintWords Go.Proofs.YtgjdlimbkjdhjaaGreatDoorW.PrintMore
def standP (K n : Int) (s : List UInt8) (b : Bool) (c : Int) (K' n' : Int) (s' : List UInt8) (b' : Bool) (c' : Int) : Int × Int :=
  if K = 4 then (0, c) else if K' = 4 then (0, c') else if K = 0 ∧ K' = 0 then (0, 0)
      else if K ≠ K' ∧ K ≠ 0 ∧ K' ≠ 0 then (cmpZ K K', 0)
      else if K = 1 ∨ K' = 1 then (cmpZ n n', 0) else if K = 2 ∨ K' = 2 then (bytesZ (foldL s) (foldL s'), 0) else (cmpZ (rankZ b) (rankZ b'), 0)
theorem compareP_of {K n : Int} {s : List UInt8} {b : Bool} {c : Int} {K' n' : Int} {s' : List UInt8} {b' : Bool} {c' : Int} (h : rightB K n s b c = true) (h' : rightB K' n' s' b' c' = true) : compareP K n s b c K' n' s' b' c' = standP K n s b c K' n' s' b' c' := by
  unfold compareP standP
  rw [if_pos ⟨h, h'⟩]
theorem ValueBlank_pure (a0_0 : Int) (a0_1 : Int) (a0_2 : ByteArray) (a0_3 : Bool) (a0_4 : Int) : foolscaplaw04_ValueBlank.f 2500 a0_0 a0_1 a0_2 a0_3 a0_4 = some true := by
  rw [← bl_of a0_2]
  generalize a0_2.data.toList = s
  unfold foolscaplaw04_ValueBlank.f
  have hB : (⟨#[]⟩ : ByteArray) = bl [] := rfl
  rw [hB, value_Compare_eq 2500 (by decide), Option.bind_some, value_Compare_eq 2500 (by decide), Option.bind_some, value_Check_eq, Option.bind_some]
  have r0 : rightB 0 0 [] false 0 = true := rfl
  cases h : rightB a0_0 a0_1 s a0_3 a0_4 with
  | false =>
    unfold compareP
    rw [h, if_neg (by decide)]
    simp only [Bool.false_eq_true, and_false, false_and, if_false, if_true]
    rw [value_lives, Option.bind_some]
  | true =>
    rw [compareP_of r0 h, compareP_of h r0, if_pos rfl, if_pos rfl]
    rcases rightB_cases h with ⟨rfl, rfl, rfl, rfl, rfl⟩ | ⟨rfl, hf, rfl, rfl, rfl⟩ | ⟨rfl, hl, rfl, rfl, rfl⟩ | ⟨rfl, rfl, rfl, rfl⟩ | ⟨rfl, h1, h7, rfl, rfl, rfl⟩
    · simp [standP, value_lives]
    · have hf' := of_decide_eq_true hf
      have hw : mn 1 (mx (-1) (wrap64 (-a0_1))) = cmpZ 0 a0_1 := by
        rw [wN (by omega) (by omega)]
        unfold mn mx cmpZ
        repeat' split
        all_goals omega
      have hw2 : cmpZ a0_1 0 = - cmpZ 0 a0_1 := by unfold cmpZ; repeat' split <;> omega
      simp [standP, hw, hw2, value_lives]
    · have e1 : bytesZ (foldL []) (foldL s) = - (mn 1 (s.length : Int)) := by
        cases s with
        | nil => rfl
        | cons x r =>
          have : bytesZ (foldL []) (foldL (x :: r)) = -1 := by unfold bytesZ foldL; rfl
          rw [this]; unfold mn; simp only [List.length_cons]; split <;> omega
      have e2 : bytesZ (foldL s) (foldL []) = mn 1 (s.length : Int) := by
        cases s with
        | nil => rfl
        | cons x r =>
          have : bytesZ (foldL (x :: r)) (foldL []) = 1 := by unfold bytesZ foldL; rfl
          rw [this]; unfold mn; simp only [List.length_cons]; split <;> omega
      simp [standP, bl_size, e1, e2, value_lives]
    · cases a0_3 <;> simp [standP, value_lives, cmpZ, rankZ]
    · simp [standP, value_lives]
theorem ValueBlank_walk (a0_0 : Int) (a0_1 : Int) (a0_2 : ByteArray) (a0_3 : Bool) (a0_4 : Int) (w : World) (y0_0 : (Lit.int .i64 a0_0).wf = true) (y0_1 : (Lit.int .i64 a0_1).wf = true) (z0 : a0_2.size ≤ 140737488351232) (y0_4 : (Lit.int .i64 a0_4).wf = true) (hL : Aside0 (LaidW w)) :
    Calls Tryz.prog 5 #[.agg #[.int .i64 a0_0, .int .i64 a0_1, .string a0_2, .bool a0_3, .int .i64 a0_4]] w fun e w' => e = .returned (.bool true) ∧ Below w.heap.size w w' :=
  foolscaplaw04_ValueBlank.calls 2500 a0_0 a0_1 a0_2 a0_3 a0_4 true w (ValueBlank_pure a0_0 a0_1 a0_2 a0_3 a0_4) hL
end Go.Proofs.YtgjdlimbkjdhjaaGreatDoor.Pr
end
