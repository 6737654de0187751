/-
  What the law ValueCompares leans on, out of the texts that were printed and written for this seat: only what its proof mentions (gathered by a program of the author's).
-/
import Derived.Test.YtgjdlimbkjdhjaaGreatDoorSValueCompares4
import Derived.Test.YtgjdlimbkjdhjaaGreatDoorSValueCompares11
import Derived.Test.YtgjdlimbkjdhjaaGreatDoorSValueCompares12
import Derived.Test.YtgjdlimbkjdhjaaGreatDoorSValueCompares13
import Derived.Test.YtgjdlimbkjdhjaaGreatDoorSValueCompares5
import Derived.Test.YtgjdlimbkjdhjaaGreatDoorSValueCompares14
import Derived.Test.YtgjdlimbkjdhjaaGreatDoorSValueCompares10
import Derived.Test.YtgjdlimbkjdhjaaGreatDoorSValueCompares6
import Derived.Test.YtgjdlimbkjdhjaaGreatDoorSValueCompares9
import Derived.Test.YtgjdlimbkjdhjaaGreatDoorSValueCompares15
import Derived.Laws.BytesArg
import Derived.Lib.IndexLaws
import Derived.Lib.ItoaNum
import Derived.Lib.ParseIntB
import Derived.Lib.Repeat
import Derived.Lib.SlTrimSet
import Derived.Lib.Strings
import Derived.WalkKit
import Derived.Lib.Bytealg
section
namespace Go.Proofs.YtgjdlimbkjdhjaaGreatDoor.Pr
set_option linter.unusedVariables false
def bl (l : List UInt8) : ByteArray := ⟨l.toArray⟩
theorem bl_size (a : List UInt8) : (bl a).size = a.length := by simp [bl, ByteArray.size]
theorem bl_toList (a : List UInt8) : (bl a).toList = a := by rw [Lib.toList_data]; simp [bl]
theorem bl_data (a : List UInt8) : (bl a).data.toList = a := by simp [bl]
theorem bl_of (s : ByteArray) : bl s.data.toList = s := by apply ByteArray.ext; simp [bl]
end Go.Proofs.YtgjdlimbkjdhjaaGreatDoor.Pr
namespace Go.Proofs.YtgjdlimbkjdhjaaGreatDoor.Pr
set_option linter.unusedVariables false
open Go.RowKit Go.Proofs.YtgjdlimbkjdhjaaGreatDoorW.PrintWords Go.Proofs.YtgjdlimbkjdhjaaGreatDoorW.PrintMore
end Go.Proofs.YtgjdlimbkjdhjaaGreatDoor.Pr
namespace Go.Proofs.YtgjdlimbkjdhjaaGreatDoor.Pr
set_option linter.unusedVariables false
set_option linter.unusedSimpArgs false
end Go.Proofs.YtgjdlimbkjdhjaaGreatDoor.Pr
namespace Go.Proofs.YtgjdlimbkjdhjaaGreatDoor.Pr
set_option linter.unusedVariables false
set_option linter.unusedSimpArgs false
end Go.Proofs.YtgjdlimbkjdhjaaGreatDoor.Pr
namespace Go.Proofs.YtgjdlimbkjdhjaaGreatDoor.Pr
set_option linter.unusedVariables false
set_option linter.unusedSimpArgs false
open Go.RowKit Go.Proofs.YtgjdlimbkjdhjaaGreatDoorW.PrintWords Go.Proofs.YtgjdlimbkjdhjaaGreatDoorW.PrintMore
theorem wN {a : Int} (h0 : -9223372036854775808 ≤ a) (h1 : a ≤ 9223372036854775807) : wrap64 a = a := by unfold wrap64; omega
end Go.Proofs.YtgjdlimbkjdhjaaGreatDoor.Pr
namespace Go.Proofs.YtgjdlimbkjdhjaaGreatDoor.Pr
set_option linter.unusedVariables false
set_option linter.unusedSimpArgs false
open Go.RowKit Go.Proofs.YtgjdlimbkjdhjaaGreatDoorW.PrintWords Go.Proofs.YtgjdlimbkjdhjaaGreatDoorW.PrintMore
def p10 (n : Nat) : Nat := 10 ^ n
end Go.Proofs.YtgjdlimbkjdhjaaGreatDoor.Pr
namespace Go.Proofs.YtgjdlimbkjdhjaaGreatDoor.Pr
set_option linter.unusedVariables false
set_option linter.unusedSimpArgs false
open Go.RowKit Go.Proofs.YtgjdlimbkjdhjaaGreatDoorW.PrintWords Go.Proofs.YtgjdlimbkjdhjaaGreatDoorW.PrintMore
def fitB (n : Int) : Bool := decide (-1000000000000000000 ≤ n ∧ n ≤ 1000000000000000000)
theorem num_Fits_fit (n : Int) : num_Fits.f n = some (fitB n) := by
  unfold num_Fits.f fitB
  by_cases c : n ≥ -1000000000000000000
  · rw [if_pos c]; congr 1; rw [decide_eq_decide]; omega
  · rw [if_neg c]; congr 1; exact (decide_eq_false (by omega)).symm
theorem ref01_Fits_fit (n : Int) : foolscapref01_Fits.f n = some (fitB n) := num_Fits_fit n
end Go.Proofs.YtgjdlimbkjdhjaaGreatDoor.Pr
end
section
namespace Go.Proofs.YtgjdlimbkjdhjaaGreatDoor.Pr
set_option linter.unusedVariables false
set_option linter.unusedSimpArgs false
open Go.RowKit Go.Proofs.YtgjdlimbkjdhjaaGreatDoorW.PrintWords Go.Proofs.YtgjdlimbkjdhjaaGreatDoorW.PrintMore
def rightB (K n : Int) (s : List UInt8) (b : Bool) (c : Int) : Bool :=
  if K = 0 then n == 0 && (s == [] && (!b && c == 0))
  else if K = 1 then fitB n && (s == [] && (!b && c == 0))
  else if K = 2 then decide (s.length ≤ 255) && (n == 0 && (!b && c == 0))
  else if K = 3 then n == 0 && (s == [] && c == 0)
  else if K = 4 then decide (1 ≤ c ∧ c ≤ 7) && (n == 0 && (s == [] && !b))
  else false
theorem rightB_cases {K n : Int} {s : List UInt8} {b : Bool} {c : Int} (h : rightB K n s b c = true) :
    (K = 0 ∧ n = 0 ∧ s = [] ∧ b = false ∧ c = 0) ∨ (K = 1 ∧ fitB n = true ∧ s = [] ∧ b = false ∧ c = 0) ∨ (K = 2 ∧ s.length ≤ 255 ∧ n = 0 ∧ b = false ∧ c = 0) ∨ (K = 3 ∧ n = 0 ∧ s = [] ∧ c = 0) ∨ (K = 4 ∧ 1 ≤ c ∧ c ≤ 7 ∧ n = 0 ∧ s = [] ∧ b = false) := by
  unfold rightB at h
  by_cases k0 : K = 0
  · rw [if_pos k0] at h
    simp only [Bool.and_eq_true, beq_iff_eq, Bool.not_eq_true'] at h
    exact Or.inl ⟨k0, h.1, h.2.1, h.2.2.1, h.2.2.2⟩
  rw [if_neg k0] at h
  by_cases k1 : K = 1
  · rw [if_pos k1] at h
    simp only [Bool.and_eq_true, beq_iff_eq, Bool.not_eq_true'] at h
    exact Or.inr (Or.inl ⟨k1, h.1, h.2.1, h.2.2.1, h.2.2.2⟩)
  rw [if_neg k1] at h
  by_cases k2 : K = 2
  · rw [if_pos k2] at h
    simp only [Bool.and_eq_true, beq_iff_eq, Bool.not_eq_true', decide_eq_true_eq] at h
    exact Or.inr (Or.inr (Or.inl ⟨k2, h.1, h.2.1, h.2.2.1, h.2.2.2⟩))
  rw [if_neg k2] at h
  by_cases k3 : K = 3
  · rw [if_pos k3] at h
    simp only [Bool.and_eq_true, beq_iff_eq, Bool.not_eq_true'] at h
    exact Or.inr (Or.inr (Or.inr (Or.inl ⟨k3, h.1, h.2.1, h.2.2⟩)))
  rw [if_neg k3] at h
  by_cases k4 : K = 4
  · rw [if_pos k4] at h
    simp only [Bool.and_eq_true, beq_iff_eq, Bool.not_eq_true', decide_eq_true_eq] at h
    exact Or.inr (Or.inr (Or.inr (Or.inr ⟨k4, h.1.1, h.1.2, h.2.1, h.2.2.1, h.2.2.2⟩)))
  rw [if_neg k4] at h
  cases h
theorem bl_sz (s : List UInt8) : ((bl s).size : Int) = (s.length : Int) := by rw [bl_size]
theorem value_Check_eq (K n : Int) (s : List UInt8) (b : Bool) (c : Int) : value_Check.f K n (bl s) b c = some (if rightB K n s b c = true then 0 else 2) := by
  unfold value_Check.f rightB
  rw [num_Fits_fit]
  simp only [bl_toList, bl_sz, Option.bind_some]
  by_cases k0 : K = 0
  · simp only [if_pos k0, Bool.and_eq_true, beq_iff_eq, Bool.not_eq_true']
  simp only [if_neg k0]
  by_cases k1 : K = 1
  · simp only [if_pos k1, Bool.and_eq_true, beq_iff_eq, Bool.not_eq_true']
  simp only [if_neg k1]
  by_cases k2 : K = 2
  · simp only [if_pos k2, Bool.and_eq_true, beq_iff_eq, Bool.not_eq_true', decide_eq_true_eq]
    congr 1
    by_cases hl : s.length ≤ 255
    · simp only [hl, show ((s.length : Int) ≤ 255) = True from eq_true (by omega)]
    · simp only [hl, show ((s.length : Int) ≤ 255) = False from eq_false (by omega)]
  simp only [if_neg k2]
  by_cases k3 : K = 3
  · simp only [if_pos k3, Bool.and_eq_true, beq_iff_eq, Bool.not_eq_true']
  simp only [if_neg k3]
  by_cases k4 : K = 4
  · simp only [if_pos k4, Bool.and_eq_true, beq_iff_eq, Bool.not_eq_true', decide_eq_true_eq, and_assoc]
    congr 1
  simp only [if_neg k4]
  rfl
theorem ref_Right_eq (K n : Int) (s : List UInt8) (b : Bool) (c : Int) : foolscapref04_Right.f K n (bl s) b c = some (rightB K n s b c) := by
  unfold foolscapref04_Right.f rightB
  rw [ref01_Fits_fit]
  simp only [bl_toList, bl_sz, Option.bind_some]
  by_cases k0 : K = 0
  · simp only [if_pos k0]
    subst k0; rfl
  · simp only [if_neg k0]
    by_cases k1 : K = 1
    · simp only [if_pos k1]
      subst k1
      cases fitB n <;> rfl
    · simp only [if_neg k1]
      by_cases k2 : K = 2
      · simp only [if_pos k2]
        subst k2
        by_cases hl : s.length ≤ 255
        · rw [if_pos (by omega), decide_eq_true hl]; rfl
        · rw [if_neg (by omega), decide_eq_false hl]; rfl
      · simp only [if_neg k2]
        by_cases k3 : K = 3
        · simp only [if_pos k3]
          subst k3; rfl
        · simp only [if_neg k3]
          by_cases k4 : K = 4
          · simp only [if_pos k4]
            subst k4
            by_cases h1 : 1 ≤ c
            · rw [if_pos (show c ≥ 1 by omega)]
              by_cases h7 : c ≤ 7
              · rw [if_pos h7, decide_eq_true ⟨h1, h7⟩]; rfl
              · rw [if_neg h7, decide_eq_false (fun h => h7 h.2)]; rfl
            · rw [if_neg (show ¬ c ≥ 1 by omega), decide_eq_false (fun h => h1 h.1)]; rfl
          · simp only [if_neg k4]
def foldL (l : List UInt8) : List UInt8 := l.map up
theorem foldL_length (l : List UInt8) : (foldL l).length = l.length := by simp [foldL]
theorem value_Fold_eq (l : List UInt8) (h : l.length ≤ 140737488351232) : value_Fold.f (bl l) = some (bl (foldL l)) := by
  unfold value_Fold.f
  rw [if_pos (by rw [bl_size]; exact h)]
  unfold foldB foldL
  rw [bl_data]; rfl
theorem ref_Fold_eq (l : List UInt8) (h : l.length ≤ 140737488351232) : foolscapref04_Fold.f (bl l) = some (bl (foldL l)) := value_Fold_eq l h
end Go.Proofs.YtgjdlimbkjdhjaaGreatDoor.Pr
namespace Go.Proofs.YtgjdlimbkjdhjaaGreatDoor.Pr
set_option linter.unusedVariables false
set_option linter.unusedSimpArgs false
open Go.RowKit Go.Proofs.YtgjdlimbkjdhjaaGreatDoorW.PrintWords Go.Proofs.YtgjdlimbkjdhjaaGreatDoorW.PrintMore
end Go.Proofs.YtgjdlimbkjdhjaaGreatDoor.Pr
namespace Go.Proofs.YtgjdlimbkjdhjaaGreatDoor.Pr
set_option linter.unusedVariables false
set_option linter.unusedSimpArgs false
open Go.RowKit Go.Proofs.YtgjdlimbkjdhjaaGreatDoorW.PrintWords Go.Proofs.YtgjdlimbkjdhjaaGreatDoorW.PrintMore
def cmpZ (a b : Int) : Int := if a < b then -1 else if b < a then 1 else 0
def rankZ (b : Bool) : Int := if b = true then 1 else 0
theorem cmpZ_self (a : Int) : cmpZ a a = 0 := by unfold cmpZ; rw [if_neg (Int.lt_irrefl a), if_neg (Int.lt_irrefl a)]
theorem nan_kind (a : Int) : api_Kind_60.f a = some false := by
  unfold api_Kind_60.f; simp
theorem nan_int (a : Int) : cmp_isNaN_int.f a = some false := by
  unfold cmp_isNaN_int.f; simp
theorem cmp_kind (a b : Int) : api_Kind_42.f a b = some (cmpZ a b) := by
  unfold api_Kind_42.f cmpZ
  rw [nan_kind, nan_kind, Option.bind_some, Option.bind_some, if_neg (by decide), if_neg (by decide)]
  split
  · rfl
  · split <;> rfl
theorem cmp_int (a b : Int) : cmp_Compare_int.f a b = some (cmpZ a b) := by
  unfold cmp_Compare_int.f cmpZ
  rw [nan_int, nan_int, Option.bind_some, Option.bind_some, if_neg (by decide), if_neg (by decide)]
  split
  · rfl
  · split <;> rfl
theorem rank_eq (b : Bool) : value_rank.f b = some (rankZ b) := by cases b <;> rfl
theorem sign_eq (a b : Int) : foolscapref04_sign.f (decide (a < b)) (decide (a > b)) = some (cmpZ a b) := by
  unfold foolscapref04_sign.f cmpZ
  by_cases h : a < b
  · rw [decide_eq_true h, if_pos rfl, if_pos h]
  · rw [decide_eq_false h, if_neg (by decide), if_neg h]
    by_cases h2 : b < a
    · rw [decide_eq_true (show a > b from h2), if_pos rfl, if_pos h2]
    · rw [decide_eq_false (show ¬ a > b from h2), if_neg (by decide), if_neg h2]
def orZ : List Int → Int
  | [] => 0
  | a :: r => if a = 0 then orZ r else a
theorem or_code (l : List Int) (hl : l.length ≤ 100) : ∀ (r p : List Int) (k : Nat), l = p ++ r → r.length < k → api_Code.l0 k 0 l (l.length : Int) (p.length : Int) = some (orZ r) := by
  intro r
  induction r with
  | nil =>
    intro p k h hk
    obtain ⟨k, rfl⟩ : ∃ m, k = m + 1 := ⟨k - 1, by simp at hk; omega⟩
    simp only [api_Code.l0]
    rw [if_neg (by subst h; simp)]
    rfl
  | cons a r ih =>
    intro p k h hk
    obtain ⟨k, rfl⟩ : ∃ m, k = m + 1 := ⟨k - 1, by simp at hk; omega⟩
    have hlen : l.length = p.length + r.length + 1 := by subst h; simp; omega
    have hrd : rd l (p.length : Int) = a := by subst h; simp [rd]
    simp only [api_Code.l0, hrd]
    rw [if_pos (by omega), if_pos (by omega), if_pos (by omega)]
    unfold orZ
    by_cases e : a = 0
    · rw [if_pos e, if_pos e, wN (by omega) (by omega)]
      have := ih (p ++ [a]) k (by rw [h]; simp) (by simp at hk; omega)
      simpa using this
    · rw [if_neg e, if_neg e]
theorem or_int (l : List Int) (hl : l.length ≤ 100) : ∀ (r p : List Int) (k : Nat), l = p ++ r → r.length < k → cmp_Or_int.l0 k 0 l (l.length : Int) (p.length : Int) = some (orZ r) := by
  intro r
  induction r with
  | nil =>
    intro p k h hk
    obtain ⟨k, rfl⟩ : ∃ m, k = m + 1 := ⟨k - 1, by simp at hk; omega⟩
    simp only [cmp_Or_int.l0]
    rw [if_neg (by subst h; simp)]
    rfl
  | cons a r ih =>
    intro p k h hk
    obtain ⟨k, rfl⟩ : ∃ m, k = m + 1 := ⟨k - 1, by simp at hk; omega⟩
    have hlen : l.length = p.length + r.length + 1 := by subst h; simp; omega
    have hrd : rd l (p.length : Int) = a := by subst h; simp [rd]
    simp only [cmp_Or_int.l0, hrd]
    rw [if_pos (by omega), if_pos (by omega), if_pos (by omega)]
    unfold orZ
    by_cases e : a = 0
    · rw [if_pos e, if_pos e, wN (by omega) (by omega)]
      have := ih (p ++ [a]) k (by rw [h]; simp) (by simp at hk; omega)
      simpa using this
    · rw [if_neg e, if_neg e]
theorem or_code_eq (k : Nat) (l : List Int) (hl : l.length ≤ 100) (hk : l.length < k) : api_Code.f k l = some (orZ l) := or_code l hl l [] k rfl hk
theorem or_int_eq (k : Nat) (l : List Int) (hl : l.length ≤ 100) (hk : l.length < k) : cmp_Or_int.f k l = some (orZ l) := or_int l hl l [] k rfl hk
def bytesZ (a b : List UInt8) : Int := Lib.compareBytes a b
theorem strings_Compare_eq (a b : List UInt8) : strings_Compare.f (bl a) (bl b) = some (bytesZ a b) := by
  unfold strings_Compare.f bytesZ
  rw [bl_data, bl_data]
theorem bt_at (p r : List UInt8) (c : UInt8) : bt (bl (p ++ c :: r)) (p.length : Int) = (c.toNat : Int) := by
  have hs : (⟨(p ++ c :: r).toArray⟩ : ByteArray).size = p.length + r.length + 1 := by simp [ByteArray.size]; omega
  unfold bt bl
  simp only [Int.toNat_natCast]
  rw [dif_pos (by rw [hs]; omega)]
  congr 2
  show (p ++ c :: r).toArray[p.length] = c
  simp
theorem u8_lt (a b : UInt8) : (a < b) = ((a.toNat : Int) < (b.toNat : Int)) := by
  refine propext ⟨fun h => ?_, fun h => ?_⟩
  · have := UInt8.lt_iff_toNat_lt.mp h; omega
  · exact UInt8.lt_iff_toNat_lt.mpr (by omega)
theorem u8_eq (a b : UInt8) : ((a.toNat : Int) = (b.toNat : Int)) = (a = b) := by
  refine propext ⟨fun h => ?_, fun h => by rw [h]⟩
  exact UInt8.toNat_inj.mp (by omega)
theorem ref_Bytes_l0 : ∀ (a b p q : List UInt8) (k : Nat), p.length = q.length → (p ++ a).length ≤ 1000 → (q ++ b).length ≤ 1000 → 2 * a.length + 2 ≤ k → foolscapref04_Bytes.l0 k (bl (p ++ a)) (bl (q ++ b)) (p.length : Int) = some (bytesZ a b) := by
  intro a
  induction a with
  | nil =>
    intro b p q k hpq h1 h2 hk
    obtain ⟨k, rfl⟩ : ∃ m, k = m + 2 := ⟨k - 2, by simp at hk; omega⟩
    simp only [foolscapref04_Bytes.l0, foolscapref04_Bytes.j1]
    simp only [List.length_append, List.length_nil] at h1 h2
    rw [if_neg (by rw [bl_size]; simp), if_neg (by decide)]
    rw [sign_eq, Option.bind_some, bl_size, bl_size]
    congr 1
    simp only [List.length_append, List.length_nil]
    cases b with
    | nil => unfold bytesZ Lib.compareBytes cmpZ; simp; omega
    | cons c b => unfold bytesZ Lib.compareBytes cmpZ; simp only [List.length_cons]; rw [if_pos (by omega)]
  | cons x a ih =>
    intro b p q k hpq h1 h2 hk
    obtain ⟨k, rfl⟩ : ∃ m, k = m + 2 := ⟨k - 2, by simp at hk; omega⟩
    simp only [foolscapref04_Bytes.l0, foolscapref04_Bytes.j1]
    simp only [List.length_append, List.length_cons] at h1 h2 hk
    rw [if_pos (by rw [bl_size]; simp; omega)]
    cases b with
    | nil =>
      rw [decide_eq_false (by rw [bl_size]; simp; omega), if_neg (by decide)]
      rw [sign_eq, Option.bind_some, bl_size, bl_size]
      congr 1
      unfold bytesZ Lib.compareBytes cmpZ
      simp only [List.length_append, List.length_cons, List.length_nil]
      rw [if_neg (by omega), if_pos (by omega)]
    | cons y b =>
      simp only [List.length_cons] at h2
      rw [decide_eq_true (by rw [bl_size]; simp; omega), if_pos rfl, if_pos (by omega), if_pos (by rw [bl_size]; simp; omega), if_pos (by rw [bl_size]; simp; omega)]
      have hx : bt (bl (p ++ x :: a)) (p.length : Int) = (x.toNat : Int) := bt_at p a x
      have hy : bt (bl (q ++ y :: b)) (p.length : Int) = (y.toNat : Int) := by rw [hpq]; exact bt_at q b y
      rw [hx, hy]
      by_cases e : x = y
      · rw [if_pos (by rw [e]), wN (by omega) (by omega)]
        have := ih b (p ++ [x]) (q ++ [y]) k (by simp [hpq]) (by simp; omega) (by simp; omega) (by omega)
        rw [show (((p ++ [x]).length : Nat) : Int) = (p.length : Int) + 1 by simp] at this
        simp only [List.append_assoc, List.cons_append, List.nil_append] at this
        rw [this]
        congr 1
        unfold bytesZ
        subst e
        conv => rhs; unfold Lib.compareBytes
        rw [if_neg (UInt8.lt_irrefl x), if_neg (UInt8.lt_irrefl x)]
      · rw [if_neg (by rw [u8_eq]; exact e), sign_eq, Option.bind_some]
        congr 1
        unfold bytesZ cmpZ
        conv => rhs; unfold Lib.compareBytes
        simp only [u8_lt]
        by_cases h : (x.toNat : Int) < (y.toNat : Int)
        · rw [if_pos h, if_pos h]
        · have hne : ¬ (x.toNat : Int) = (y.toNat : Int) := by rw [u8_eq]; exact e
          rw [if_neg h, if_neg h, if_pos (by omega), if_pos (by omega)]
theorem ref_Bytes_eq (k : Nat) (hk : 2100 ≤ k) (a b : List UInt8) (ha : a.length ≤ 1000) (hb : b.length ≤ 1000) : foolscapref04_Bytes.f k (bl a) (bl b) = some (bytesZ a b) :=
  ref_Bytes_l0 a b [] [] k rfl ha hb (by omega)
def compareP (K n : Int) (s : List UInt8) (b : Bool) (c : Int) (K' n' : Int) (s' : List UInt8) (b' : Bool) (c' : Int) : Int × Int :=
  if rightB K n s b c = true ∧ rightB K' n' s' b' c' = true then
    (if K = 4 then (0, c) else if K' = 4 then (0, c') else if K = 0 ∧ K' = 0 then (0, 0)
      else if K ≠ K' ∧ K ≠ 0 ∧ K' ≠ 0 then (cmpZ K K', 0)
      else if K = 1 ∨ K' = 1 then (cmpZ n n', 0) else if K = 2 ∨ K' = 2 then (bytesZ (foldL s) (foldL s'), 0) else (cmpZ (rankZ b) (rankZ b'), 0)) else (0, 2)
def alikeP (K n : Int) (s : List UInt8) (b : Bool) (c : Int) (K' n' : Int) (s' : List UInt8) (b' : Bool) (c' : Int) : Bool :=
  rightB K n s b c && (rightB K' n' s' b' c' && (K == K' && (n == n' && (foldL s == foldL s' && (b == b' && (c == c'))))))
theorem right_len {K n : Int} {s : List UInt8} {b : Bool} {c : Int} (h : rightB K n s b c = true) : s.length ≤ 255 := by
  rcases rightB_cases h with ⟨_, _, rfl, _, _⟩ | ⟨_, _, rfl, _, _⟩ | ⟨_, hl, _, _, _⟩ | ⟨_, _, rfl, _⟩ | ⟨_, _, _, _, rfl, _⟩
  all_goals first | exact Nat.zero_le _ | exact hl
theorem value_Alike_eq (k : Nat) (hk : 5 ≤ k) (K n : Int) (s : List UInt8) (b : Bool) (c : Int) (K' n' : Int) (s' : List UInt8) (b' : Bool) (c' : Int) : value_Alike.f k K n (bl s) b c K' n' (bl s') b' c' = some (alikeP K n s b c K' n' s' b' c') := by
  obtain ⟨k, rfl⟩ : ∃ m, k = m + 1 := ⟨k - 1, by omega⟩
  unfold value_Alike.f alikeP
  rw [value_Check_eq, Option.bind_some]
  cases h : rightB K n s b c with
  | false => rfl
  | true =>
    rw [if_pos rfl, if_pos rfl, value_Check_eq, Option.bind_some]
    cases h' : rightB K' n' s' b' c' with
    | false => rfl
    | true =>
      simp only [value_Alike.j0]
      rw [value_Fold_eq s (by have := right_len h; omega), value_Fold_eq s' (by have := right_len h'; omega)]
      simp only [Option.bind_some, bl_toList]
      rfl
theorem ref_Alike_eq (k : Nat) (hk : 5 ≤ k) (K n : Int) (s : List UInt8) (b : Bool) (c : Int) (K' n' : Int) (s' : List UInt8) (b' : Bool) (c' : Int) : foolscapref04_Alike.f k K n (bl s) b c K' n' (bl s') b' c' = some (alikeP K n s b c K' n' s' b' c') := by
  obtain ⟨k, rfl⟩ : ∃ m, k = m + 1 := ⟨k - 1, by omega⟩
  unfold foolscapref04_Alike.f alikeP
  rw [ref_Right_eq, Option.bind_some]
  cases h : rightB K n s b c with
  | false => rfl
  | true =>
    rw [if_pos rfl, ref_Right_eq, Option.bind_some]
    cases h' : rightB K' n' s' b' c' with
    | false => rfl
    | true =>
      simp only [foolscapref04_Alike.j0]
      rw [ref_Fold_eq s (by have := right_len h; omega), ref_Fold_eq s' (by have := right_len h'; omega)]
      simp only [Option.bind_some, bl_toList]
      rfl
theorem value_Compare_j2 (k : Nat) (hk : 10 ≤ k) (K n : Int) (s : List UInt8) (b : Bool) (c : Int) (K' n' : Int) (s' : List UInt8) (b' : Bool) (c' : Int) (hs : s.length ≤ 255) (hs' : s'.length ≤ 255) :
    value_Compare.j2 k K n (bl s) b c K' n' (bl s') b' c' = some (orZ [cmpZ K K', cmpZ n n', bytesZ (foldL s) (foldL s'), cmpZ (rankZ b) (rankZ b')], 0) := by
  obtain ⟨k, rfl⟩ : ∃ m, k = m + 1 := ⟨k - 1, by omega⟩
  simp only [value_Compare.j2]
  rw [cmp_kind, Option.bind_some, cmp_int, Option.bind_some, value_Fold_eq s (by omega), Option.bind_some, value_Fold_eq s' (by omega), Option.bind_some, strings_Compare_eq, Option.bind_some, rank_eq, Option.bind_some, rank_eq, Option.bind_some, cmp_int, Option.bind_some, or_int_eq k _ (by simp) (by simp; omega), Option.bind_some]
theorem value_Compare_j0 (k : Nat) (hk : 20 ≤ k) (K n : Int) (s : List UInt8) (b : Bool) (c : Int) (K' n' : Int) (s' : List UInt8) (b' : Bool) (c' : Int) (hs : s.length ≤ 255) (hs' : s'.length ≤ 255) :
    value_Compare.j0 k false K n (bl s) b c K' n' (bl s') b' c' = some (if orZ [c, c'] = 0 then (orZ [cmpZ (if K = 0 then K' else K) (if K' = 0 then (if K = 0 then K' else K) else K'), cmpZ n n', bytesZ (foldL s) (foldL s'), cmpZ (rankZ b) (rankZ b')], 0) else (0, orZ [c, c'])) := by
  obtain ⟨k, rfl⟩ : ∃ m, k = m + 1 := ⟨k - 1, by omega⟩
  simp only [value_Compare.j0]
  rw [if_neg (by decide), or_code_eq k _ (by simp) (by simp; omega), Option.bind_some]
  obtain ⟨k, rfl⟩ : ∃ m, k = m + 1 := ⟨k - 1, by omega⟩
  by_cases hc : orZ [c, c'] = 0
  · rw [if_pos hc, if_pos hc]
    by_cases h0 : K = 0
    · rw [if_pos h0, if_pos h0]
      simp only [value_Compare.j1]
      by_cases h1 : K' = 0
      · rw [if_pos h1, if_pos h1, value_Compare_j2 k (by omega) _ _ _ _ _ _ _ _ _ _ hs hs']
      · rw [if_neg h1, if_neg h1, value_Compare_j2 k (by omega) _ _ _ _ _ _ _ _ _ _ hs hs']
    · rw [if_neg h0, if_neg h0]
      simp only [value_Compare.j1]
      by_cases h1 : K' = 0
      · rw [if_pos h1, if_pos h1, value_Compare_j2 k (by omega) _ _ _ _ _ _ _ _ _ _ hs hs']
      · rw [if_neg h1, if_neg h1, value_Compare_j2 k (by omega) _ _ _ _ _ _ _ _ _ _ hs hs']
  · rw [if_neg hc, if_neg hc]
theorem bytesZ_nil : bytesZ (foldL []) (foldL []) = 0 := rfl
theorem z12 : cmpZ 1 2 = -1 := by decide
theorem z13 : cmpZ 1 3 = -1 := by decide
theorem z21 : cmpZ 2 1 = 1 := by decide
theorem z23 : cmpZ 2 3 = -1 := by decide
theorem z31 : cmpZ 3 1 = 1 := by decide
theorem z32 : cmpZ 3 2 = 1 := by decide
theorem value_Compare_eq (k : Nat) (hk : 20 ≤ k) (K n : Int) (s : List UInt8) (b : Bool) (c : Int) (K' n' : Int) (s' : List UInt8) (b' : Bool) (c' : Int) : value_Compare.f k K n (bl s) b c K' n' (bl s') b' c' = some (compareP K n s b c K' n' s' b' c') := by
  unfold value_Compare.f compareP
  rw [value_Check_eq, Option.bind_some]
  cases h : rightB K n s b c with
  | false =>
    rw [if_neg (by decide)]
    obtain ⟨k, rfl⟩ : ∃ m, k = m + 1 := ⟨k - 1, by omega⟩
    simp [value_Compare.j0]
  | true =>
    rw [if_pos rfl, if_pos rfl, value_Check_eq, Option.bind_some]
    cases h' : rightB K' n' s' b' c' with
    | false =>
      obtain ⟨k, rfl⟩ : ∃ m, k = m + 1 := ⟨k - 1, by omega⟩
      simp [value_Compare.j0]
    | true =>
      rw [if_pos rfl, show ((0 : Int) != 0) = false from rfl, value_Compare_j0 k hk _ _ _ _ _ _ _ _ _ _ (right_len h) (right_len h'), if_pos (show (true = true ∧ true = true) from ⟨rfl, rfl⟩)]
      have hl := right_len h
      have hl' := right_len h'
      have g := rightB_cases h
      have g' := rightB_cases h'
      clear h h'
      rcases g with ⟨rfl, rfl, rfl, rfl, rfl⟩ | ⟨rfl, hf, rfl, rfl, rfl⟩ | ⟨rfl, hl, rfl, rfl, rfl⟩ | ⟨rfl, rfl, rfl, rfl⟩ | ⟨rfl, h1, h7, rfl, rfl, rfl⟩
      · rcases g' with ⟨rfl, rfl, rfl, rfl, rfl⟩ | ⟨rfl, hf', rfl, rfl, rfl⟩ | ⟨rfl, hl', rfl, rfl, rfl⟩ | ⟨rfl, rfl, rfl, rfl⟩ | ⟨rfl, h1', h7', rfl, rfl, rfl⟩
        · simp [orZ, cmpZ_self, bytesZ_nil, z12, z13, z21, z23, z31, z32]; try exact fun h0 => h0.symm
        · simp [orZ, cmpZ_self, bytesZ_nil, z12, z13, z21, z23, z31, z32]; try exact fun h0 => h0.symm
        · simp [orZ, cmpZ_self, bytesZ_nil, z12, z13, z21, z23, z31, z32]; try exact fun h0 => h0.symm
        · simp [orZ, cmpZ_self, bytesZ_nil, z12, z13, z21, z23, z31, z32]; try exact fun h0 => h0.symm
        · have hc0 : ¬ c' = 0 := by omega
          simp [hc0, orZ, cmpZ_self, bytesZ_nil, z12, z13, z21, z23, z31, z32]
      · rcases g' with ⟨rfl, rfl, rfl, rfl, rfl⟩ | ⟨rfl, hf', rfl, rfl, rfl⟩ | ⟨rfl, hl', rfl, rfl, rfl⟩ | ⟨rfl, rfl, rfl, rfl⟩ | ⟨rfl, h1', h7', rfl, rfl, rfl⟩
        · simp [orZ, cmpZ_self, bytesZ_nil, z12, z13, z21, z23, z31, z32]; try exact fun h0 => h0.symm
        · simp [orZ, cmpZ_self, bytesZ_nil, z12, z13, z21, z23, z31, z32]; try exact fun h0 => h0.symm
        · simp [orZ, cmpZ_self, bytesZ_nil, z12, z13, z21, z23, z31, z32]; try exact fun h0 => h0.symm
        · simp [orZ, cmpZ_self, bytesZ_nil, z12, z13, z21, z23, z31, z32]; try exact fun h0 => h0.symm
        · have hc0 : ¬ c' = 0 := by omega
          simp [hc0, orZ, cmpZ_self, bytesZ_nil, z12, z13, z21, z23, z31, z32]
      · rcases g' with ⟨rfl, rfl, rfl, rfl, rfl⟩ | ⟨rfl, hf', rfl, rfl, rfl⟩ | ⟨rfl, hl', rfl, rfl, rfl⟩ | ⟨rfl, rfl, rfl, rfl⟩ | ⟨rfl, h1', h7', rfl, rfl, rfl⟩
        · simp [orZ, cmpZ_self, bytesZ_nil, z12, z13, z21, z23, z31, z32]; try exact fun h0 => h0.symm
        · simp [orZ, cmpZ_self, bytesZ_nil, z12, z13, z21, z23, z31, z32]; try exact fun h0 => h0.symm
        · simp [orZ, cmpZ_self, bytesZ_nil, z12, z13, z21, z23, z31, z32]; try exact fun h0 => h0.symm
        · simp [orZ, cmpZ_self, bytesZ_nil, z12, z13, z21, z23, z31, z32]; try exact fun h0 => h0.symm
        · have hc0 : ¬ c' = 0 := by omega
          simp [hc0, orZ, cmpZ_self, bytesZ_nil, z12, z13, z21, z23, z31, z32]
      · rcases g' with ⟨rfl, rfl, rfl, rfl, rfl⟩ | ⟨rfl, hf', rfl, rfl, rfl⟩ | ⟨rfl, hl', rfl, rfl, rfl⟩ | ⟨rfl, rfl, rfl, rfl⟩ | ⟨rfl, h1', h7', rfl, rfl, rfl⟩
        · simp [orZ, cmpZ_self, bytesZ_nil, z12, z13, z21, z23, z31, z32]; try exact fun h0 => h0.symm
        · simp [orZ, cmpZ_self, bytesZ_nil, z12, z13, z21, z23, z31, z32]; try exact fun h0 => h0.symm
        · simp [orZ, cmpZ_self, bytesZ_nil, z12, z13, z21, z23, z31, z32]; try exact fun h0 => h0.symm
        · simp [orZ, cmpZ_self, bytesZ_nil, z12, z13, z21, z23, z31, z32]; try exact fun h0 => h0.symm
        · have hc0 : ¬ c' = 0 := by omega
          simp [hc0, orZ, cmpZ_self, bytesZ_nil, z12, z13, z21, z23, z31, z32]
      · rcases g' with ⟨rfl, rfl, rfl, rfl, rfl⟩ | ⟨rfl, hf', rfl, rfl, rfl⟩ | ⟨rfl, hl', rfl, rfl, rfl⟩ | ⟨rfl, rfl, rfl, rfl⟩ | ⟨rfl, h1', h7', rfl, rfl, rfl⟩
        all_goals (have hc0 : ¬ c = 0 := by omega)
        all_goals simp [hc0, orZ, cmpZ_self, bytesZ_nil, z12, z13, z21, z23, z31, z32]
theorem ref_Compare_eq (k : Nat) (hk : 2200 ≤ k) (K n : Int) (s : List UInt8) (b : Bool) (c : Int) (K' n' : Int) (s' : List UInt8) (b' : Bool) (c' : Int) : foolscapref04_Compare.f k K n (bl s) b c K' n' (bl s') b' c' = some (compareP K n s b c K' n' s' b' c') := by
  obtain ⟨k, rfl⟩ : ∃ m, k = m + 1 := ⟨k - 1, by omega⟩
  unfold foolscapref04_Compare.f compareP
  rw [ref_Right_eq, Option.bind_some]
  cases h : rightB K n s b c with
  | false =>
    simp only [foolscapref04_Compare.j0]
    simp
  | true =>
    rw [if_pos rfl, ref_Right_eq, Option.bind_some]
    cases h' : rightB K' n' s' b' c' with
    | false =>
      simp only [foolscapref04_Compare.j0]
      simp
    | true =>
      have hl := right_len h
      have hl' := right_len h'
      have g := rightB_cases h
      have g' := rightB_cases h'
      clear h h'
      have hB := ref_Bytes_eq k (by omega) (foldL s) (foldL s') (by rw [foldL_length]; omega) (by rw [foldL_length]; omega)
      have hF := ref_Fold_eq s (by omega)
      have hF' := ref_Fold_eq s' (by omega)
      rcases g with ⟨rfl, rfl, rfl, rfl, rfl⟩ | ⟨rfl, hf, rfl, rfl, rfl⟩ | ⟨rfl, hl, rfl, rfl, rfl⟩ | ⟨rfl, rfl, rfl, rfl⟩ | ⟨rfl, h1, h7, rfl, rfl, rfl⟩
      · rcases g' with ⟨rfl, rfl, rfl, rfl, rfl⟩ | ⟨rfl, hf', rfl, rfl, rfl⟩ | ⟨rfl, hl', rfl, rfl, rfl⟩ | ⟨rfl, rfl, rfl, rfl⟩ | ⟨rfl, h1', h7', rfl, rfl, rfl⟩
        all_goals simp [foolscapref04_Compare.j0, foolscapref04_as.f, hF, hF', hB, foolscapref04_sign.f, cmpZ, rankZ]
        all_goals first | done | (cases b <;> rfl) | (cases b' <;> rfl) | (cases b <;> cases b' <;> rfl) | (split <;> (try split) <;> rfl)
      · rcases g' with ⟨rfl, rfl, rfl, rfl, rfl⟩ | ⟨rfl, hf', rfl, rfl, rfl⟩ | ⟨rfl, hl', rfl, rfl, rfl⟩ | ⟨rfl, rfl, rfl, rfl⟩ | ⟨rfl, h1', h7', rfl, rfl, rfl⟩
        all_goals simp [foolscapref04_Compare.j0, foolscapref04_as.f, hF, hF', hB, foolscapref04_sign.f, cmpZ, rankZ]
        all_goals first | done | (cases b <;> rfl) | (cases b' <;> rfl) | (cases b <;> cases b' <;> rfl) | (split <;> (try split) <;> rfl)
      · rcases g' with ⟨rfl, rfl, rfl, rfl, rfl⟩ | ⟨rfl, hf', rfl, rfl, rfl⟩ | ⟨rfl, hl', rfl, rfl, rfl⟩ | ⟨rfl, rfl, rfl, rfl⟩ | ⟨rfl, h1', h7', rfl, rfl, rfl⟩
        all_goals simp [foolscapref04_Compare.j0, foolscapref04_as.f, hF, hF', hB, foolscapref04_sign.f, cmpZ, rankZ]
        all_goals first | done | (cases b <;> rfl) | (cases b' <;> rfl) | (cases b <;> cases b' <;> rfl) | (split <;> (try split) <;> rfl)
      · rcases g' with ⟨rfl, rfl, rfl, rfl, rfl⟩ | ⟨rfl, hf', rfl, rfl, rfl⟩ | ⟨rfl, hl', rfl, rfl, rfl⟩ | ⟨rfl, rfl, rfl, rfl⟩ | ⟨rfl, h1', h7', rfl, rfl, rfl⟩
        all_goals simp [foolscapref04_Compare.j0, foolscapref04_as.f, hF, hF', hB, foolscapref04_sign.f, cmpZ, rankZ]
        all_goals first | done | (cases b <;> rfl) | (cases b' <;> rfl) | (cases b <;> cases b' <;> rfl) | (split <;> (try split) <;> rfl)
      · rcases g' with ⟨rfl, rfl, rfl, rfl, rfl⟩ | ⟨rfl, hf', rfl, rfl, rfl⟩ | ⟨rfl, hl', rfl, rfl, rfl⟩ | ⟨rfl, rfl, rfl, rfl⟩ | ⟨rfl, h1', h7', rfl, rfl, rfl⟩
        all_goals simp [foolscapref04_Compare.j0, foolscapref04_as.f, hF, hF', hB, foolscapref04_sign.f, cmpZ, rankZ]
        all_goals first | done | (cases b <;> rfl) | (cases b' <;> rfl) | (cases b <;> cases b' <;> rfl) | (split <;> (try split) <;> rfl)
end Go.Proofs.YtgjdlimbkjdhjaaGreatDoor.Pr
namespace Go.Proofs.YtgjdlimbkjdhjaaGreatDoor.Pr
set_option linter.unusedVariables false
set_option linter.unusedSimpArgs false
open Go.RowKit Go.Proofs.YtgjdlimbkjdhjaaGreatDoorW.PrintWords Go.Proofs.YtgjdlimbkjdhjaaGreatDoorW.PrintMore
theorem value_lives : foolscaplaw04_lives.f 2500 = some true := by decide +kernel
end Go.Proofs.YtgjdlimbkjdhjaaGreatDoor.Pr
end
section
namespace Go.Proofs.YtgjdlimbkjdhjaaGreatDoor.Pr
set_option linter.unusedVariables false
set_option linter.unusedSimpArgs false
open Go.RowKit Go.Proofs.YtgjdlimbkjdhjaaGreatDoorW.PrintWords Go.Proofs.YtgjdlimbkjdhjaaGreatDoorW.PrintMore
theorem ValueCompares_pure (a0_0 : Int) (a0_1 : Int) (a0_2 : ByteArray) (a0_3 : Bool) (a0_4 : Int) (a1_0 : Int) (a1_1 : Int) (a1_2 : ByteArray) (a1_3 : Bool) (a1_4 : Int) : foolscaplaw04_ValueCompares.f 2500 a0_0 a0_1 a0_2 a0_3 a0_4 a1_0 a1_1 a1_2 a1_3 a1_4 = some true := by
  rw [← bl_of a0_2, ← bl_of a1_2]
  unfold foolscaplaw04_ValueCompares.f
  rw [value_Compare_eq 2500 (by decide), Option.bind_some, ref_Compare_eq 2500 (by decide), Option.bind_some, if_pos rfl, if_pos rfl, value_Alike_eq 2500 (by decide), Option.bind_some, ref_Alike_eq 2500 (by decide), Option.bind_some, if_pos (by simp), value_lives, Option.bind_some]
theorem ValueCompares_walk (a0_0 : Int) (a0_1 : Int) (a0_2 : ByteArray) (a0_3 : Bool) (a0_4 : Int) (a1_0 : Int) (a1_1 : Int) (a1_2 : ByteArray) (a1_3 : Bool) (a1_4 : Int) (w : World) (y0_0 : (Lit.int .i64 a0_0).wf = true) (y0_1 : (Lit.int .i64 a0_1).wf = true) (z0 : a0_2.size ≤ 140737488351232) (y0_4 : (Lit.int .i64 a0_4).wf = true) (y1_0 : (Lit.int .i64 a1_0).wf = true) (y1_1 : (Lit.int .i64 a1_1).wf = true) (z1 : a1_2.size ≤ 140737488351232) (y1_4 : (Lit.int .i64 a1_4).wf = true) (hL : Aside0 (LaidW w)) :
    Calls Tryz.prog 6 #[.agg #[.int .i64 a0_0, .int .i64 a0_1, .string a0_2, .bool a0_3, .int .i64 a0_4], .agg #[.int .i64 a1_0, .int .i64 a1_1, .string a1_2, .bool a1_3, .int .i64 a1_4]] w fun e w' => e = .returned (.bool true) ∧ Below w.heap.size w w' :=
  foolscaplaw04_ValueCompares.calls 2500 a0_0 a0_1 a0_2 a0_3 a0_4 a1_0 a1_1 a1_2 a1_3 a1_4 true w (ValueCompares_pure a0_0 a0_1 a0_2 a0_3 a0_4 a1_0 a1_1 a1_2 a1_3 a1_4) hL
end Go.Proofs.YtgjdlimbkjdhjaaGreatDoor.Pr
end
