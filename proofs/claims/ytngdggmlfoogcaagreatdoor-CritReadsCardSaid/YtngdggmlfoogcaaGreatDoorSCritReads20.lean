/-
  What the law CritReads leans on, out of the texts that were printed and written for this seat: only what its proof mentions (gathered by a program of the author's).
-/
import Derived.Test.YtngdggmlfoogcaaGreatDoorSCritReads16
import Derived.Test.YtngdggmlfoogcaaGreatDoorSCritReads17
import Derived.Test.YtngdggmlfoogcaaGreatDoorSCritReads4
import Derived.Test.YtngdggmlfoogcaaGreatDoorSCritReads6
import Derived.Test.YtngdggmlfoogcaaGreatDoorSCritReads14
import Derived.Test.YtngdggmlfoogcaaGreatDoorSCritReads5
import Derived.Test.YtngdggmlfoogcaaGreatDoorSCritReads9
import Derived.Test.YtngdggmlfoogcaaGreatDoorSCritReads8
import Derived.Test.YtngdggmlfoogcaaGreatDoorSCritReads10
import Derived.Test.YtngdggmlfoogcaaGreatDoorSCritReads15
import Derived.Test.YtngdggmlfoogcaaGreatDoorSCritReads12
import Derived.Test.YtngdggmlfoogcaaGreatDoorSCritReads11
import Derived.Test.YtngdggmlfoogcaaGreatDoorSCritReads19
import Derived.Test.YtngdggmlfoogcaaGreatDoorSCritReads18
import Derived.Test.YtngdggmlfoogcaaGreatDoorSCritReads13
import Derived.Below
import Derived.Laws.NewBlocks
import Derived.Lib.Bytealg
import Derived.LoopTactic
import Derived.WalkKit
section
namespace Go.Proofs.YtngdggmlfoogcaaGreatDoor.Pr
set_option linter.unusedVariables false
set_option linter.unusedSimpArgs false
open Go.RowKit Go.Proofs.YtngdggmlfoogcaaGreatDoorW.PrintWords Go.Proofs.YtngdggmlfoogcaaGreatDoorW.PrintMore
def rightB (K n : Int) (s : List UInt8) (b : Bool) (c : Int) : Bool :=
  if K = 0 then n == 0 && (s == [] && (!b && c == 0))
  else if K = 1 then fitB n && (s == [] && (!b && c == 0))
  else if K = 2 then decide (s.length ≤ 255) && (n == 0 && (!b && c == 0))
  else if K = 3 then n == 0 && (s == [] && c == 0)
  else if K = 4 then decide (1 ≤ c ∧ c ≤ 7) && (n == 0 && (s == [] && !b))
  else false
theorem rightB_cases {K n : Int} {s : List UInt8} {b : Bool} {c : Int} (h : rightB K n s b c = true) :
    (K = 0 ∧ n = 0 ∧ s = [] ∧ b = false ∧ c = 0) ∨ (K = 1 ∧ fitB n = true ∧ s = [] ∧ b = false ∧ c = 0) ∨ (K = 2 ∧ s.length ≤ 255 ∧ n = 0 ∧ b = false ∧ c = 0) ∨ (K = 3 ∧ n = 0 ∧ s = [] ∧ c = 0) ∨ (K = 4 ∧ 1 ≤ c ∧ c ≤ 7 ∧ n = 0 ∧ s = [] ∧ b = false) := by
  unfold rightB at h
  by_cases k0 : K = 0
  · rw [if_pos k0] at h
    simp only [Bool.and_eq_true, beq_iff_eq, Bool.not_eq_true'] at h
    exact Or.inl ⟨k0, h.1, h.2.1, h.2.2.1, h.2.2.2⟩
  rw [if_neg k0] at h
  by_cases k1 : K = 1
  · rw [if_pos k1] at h
    simp only [Bool.and_eq_true, beq_iff_eq, Bool.not_eq_true'] at h
    exact Or.inr (Or.inl ⟨k1, h.1, h.2.1, h.2.2.1, h.2.2.2⟩)
  rw [if_neg k1] at h
  by_cases k2 : K = 2
  · rw [if_pos k2] at h
    simp only [Bool.and_eq_true, beq_iff_eq, Bool.not_eq_true', decide_eq_true_eq] at h
    exact Or.inr (Or.inr (Or.inl ⟨k2, h.1, h.2.1, h.2.2.1, h.2.2.2⟩))
  rw [if_neg k2] at h
  by_cases k3 : K = 3
  · rw [if_pos k3] at h
    simp only [Bool.and_eq_true, beq_iff_eq, Bool.not_eq_true'] at h
    exact Or.inr (Or.inr (Or.inr (Or.inl ⟨k3, h.1, h.2.1, h.2.2⟩)))
  rw [if_neg k3] at h
  by_cases k4 : K = 4
  · rw [if_pos k4] at h
    simp only [Bool.and_eq_true, beq_iff_eq, Bool.not_eq_true', decide_eq_true_eq] at h
    exact Or.inr (Or.inr (Or.inr (Or.inr ⟨k4, h.1.1, h.1.2, h.2.1, h.2.2.1, h.2.2.2⟩)))
  rw [if_neg k4] at h
  cases h
theorem bl_sz (s : List UInt8) : ((bl s).size : Int) = (s.length : Int) := by rw [bl_size]
theorem value_Check_eq (K n : Int) (s : List UInt8) (b : Bool) (c : Int) : value_Check.f K n (bl s) b c = some (if rightB K n s b c = true then 0 else 2) := by
  unfold value_Check.f rightB
  rw [num_Fits_fit]
  simp only [bl_toList, bl_sz, Option.bind_some]
  by_cases k0 : K = 0
  · simp only [if_pos k0, Bool.and_eq_true, beq_iff_eq, Bool.not_eq_true']
  simp only [if_neg k0]
  by_cases k1 : K = 1
  · simp only [if_pos k1, Bool.and_eq_true, beq_iff_eq, Bool.not_eq_true']
  simp only [if_neg k1]
  by_cases k2 : K = 2
  · simp only [if_pos k2, Bool.and_eq_true, beq_iff_eq, Bool.not_eq_true', decide_eq_true_eq]
    congr 1
    by_cases hl : s.length ≤ 255
    · simp only [hl, show ((s.length : Int) ≤ 255) = True from eq_true (by omega)]
    · simp only [hl, show ((s.length : Int) ≤ 255) = False from eq_false (by omega)]
  simp only [if_neg k2]
  by_cases k3 : K = 3
  · simp only [if_pos k3, Bool.and_eq_true, beq_iff_eq, Bool.not_eq_true']
  simp only [if_neg k3]
  by_cases k4 : K = 4
  · simp only [if_pos k4, Bool.and_eq_true, beq_iff_eq, Bool.not_eq_true', decide_eq_true_eq, and_assoc]
    congr 1
  simp only [if_neg k4]
  rfl
theorem ref_Right_eq (K n : Int) (s : List UInt8) (b : Bool) (c : Int) : foolscapref04_Right.f K n (bl s) b c = some (rightB K n s b c) := by
  unfold foolscapref04_Right.f rightB
  rw [ref01_Fits_fit]
  simp only [bl_toList, bl_sz, Option.bind_some]
  by_cases k0 : K = 0
  · simp only [if_pos k0]
    subst k0; rfl
  · simp only [if_neg k0]
    by_cases k1 : K = 1
    · simp only [if_pos k1]
      subst k1
      cases fitB n <;> rfl
    · simp only [if_neg k1]
      by_cases k2 : K = 2
      · simp only [if_pos k2]
        subst k2
        by_cases hl : s.length ≤ 255
        · rw [if_pos (by omega), decide_eq_true hl]; rfl
        · rw [if_neg (by omega), decide_eq_false hl]; rfl
      · simp only [if_neg k2]
        by_cases k3 : K = 3
        · simp only [if_pos k3]
          subst k3; rfl
        · simp only [if_neg k3]
          by_cases k4 : K = 4
          · simp only [if_pos k4]
            subst k4
            by_cases h1 : 1 ≤ c
            · rw [if_pos (show c ≥ 1 by omega)]
              by_cases h7 : c ≤ 7
              · rw [if_pos h7, decide_eq_true ⟨h1, h7⟩]; rfl
              · rw [if_neg h7, decide_eq_false (fun h => h7 h.2)]; rfl
            · rw [if_neg (show ¬ c ≥ 1 by omega), decide_eq_false (fun h => h1 h.1)]; rfl
          · simp only [if_neg k4]
def foldL (l : List UInt8) : List UInt8 := l.map up
theorem value_Fold_eq (l : List UInt8) (h : l.length ≤ 140737488351232) : value_Fold.f (bl l) = some (bl (foldL l)) := by
  unfold value_Fold.f
  rw [if_pos (by rw [bl_size]; exact h)]
  unfold foldB foldL
  rw [bl_data]; rfl
theorem ref_Fold_eq (l : List UInt8) (h : l.length ≤ 140737488351232) : foolscapref04_Fold.f (bl l) = some (bl (foldL l)) := value_Fold_eq l h
def TRUEL : List UInt8 := [84, 82, 85, 69]
def FALSEL : List UInt8 := [70, 65, 76, 83, 69]
def truP (s : List UInt8) : Bool × Bool := (foldL s == TRUEL, foldL s == TRUEL || foldL s == FALSEL)
theorem value_truth_eq (l : List UInt8) (h : l.length ≤ 140737488351232) : value_truth.f (bl l) = some (truP l) := by
  unfold value_truth.f truP TRUEL FALSEL
  rw [value_Fold_eq l h, Option.bind_some, bl_toList]
  by_cases c : foldL l = [84, 82, 85, 69]
  · rw [if_pos c]; simp [c]
  · rw [if_neg c]; simp [c]
end Go.Proofs.YtngdggmlfoogcaaGreatDoor.Pr
namespace Go.Proofs.YtngdggmlfoogcaaGreatDoor.Pr
set_option linter.unusedVariables false
set_option linter.unusedSimpArgs false
open Go.RowKit Go.Proofs.YtngdggmlfoogcaaGreatDoorW.PrintWords Go.Proofs.YtngdggmlfoogcaaGreatDoorW.PrintMore
def readP (s : List UInt8) : Int × Int × List UInt8 × Bool × Int × Int :=
  if s = [] then (0, 0, [], false, 0, 0) else if (numL s).2 = 0 then (1, (numL s).1, [], false, 0, 0) else if (truP s).2 = true then (3, 0, [], (truP s).1, 0, 0) else match nameOf (bl s) with
  | some i => (4, 0, [], false, i, 0)
  | none => if s.length ≤ 255 then (2, 0, s, false, 0, 0) else (0, 0, [], false, 0, 7)
def toB (r : Int × Int × List UInt8 × Bool × Int × Int) : Int × Int × ByteArray × Bool × Int × Int := (r.1, r.2.1, bl r.2.2.1, r.2.2.2.1, r.2.2.2.2.1, r.2.2.2.2.2)
theorem bl_nm0 (s : List UInt8) : (bl s = nm0) = (s = []) := by
  refine propext ⟨fun h => ?_, fun h => by subst h; rfl⟩
  exact bl_inj (a := s) (b := []) h
theorem value_Read_eq (k : Nat) (hk : 1 ≤ k) (s : List UInt8) (hs : s.length ≤ 140737488351232) : value_Read.f k (bl s) = some (toB (readP s)) := by
  unfold value_Read.f readP
  simp only [bl_nm0]
  by_cases c0 : s = []
  · rw [if_pos c0, if_pos c0]; rfl
  rw [if_neg c0, if_neg c0, num_Parse_eq k hk, Option.bind_some]
  by_cases c1 : (numL s).2 = 0
  · rw [if_pos c1, if_pos c1]; rfl
  rw [if_neg c1, if_neg c1, value_truth_eq s hs, Option.bind_some]
  by_cases c2 : (truP s).2 = true
  · rw [if_pos c2, if_pos c2]; rfl
  rw [if_neg c2, if_neg c2]
  cases nameOf (bl s) with
  | some i => rfl
  | none =>
    simp only [bl_sz]
    by_cases c3 : s.length ≤ 255
    · rw [if_pos (by omega), if_pos c3]; rfl
    · rw [if_neg (by omega), if_neg c3]; rfl
def nmsL : List ByteArray := [nm0, nm1, nm2, nm3, nm4, nm5, nm6, nm7]
theorem ref_Names_eq : foolscapref04_Names.f = some nmsL := rfl
theorem tl_iff (a : ByteArray) (s : List UInt8) : (a.toList = (bl s).toList) = (bl s = a) := by
  refine propext ⟨fun h => ?_, fun h => by rw [h]⟩
  rw [bl_toList, Lib.toList_data] at h
  rw [← h, bl_of]
theorem ref_Read_l0 (k : Nat) (hk : 10 ≤ k) (s : List UInt8) : foolscapref04_Read.l0 k (bl s) nmsL 1 = some (match nameOf (bl s) with
    | some i => (4, 0, bl [], false, i, 0)
    | none => if s.length ≤ 255 then (2, 0, bl s, false, 0, 0) else (0, 0, bl [], false, 0, 7)) := by
  obtain ⟨k, rfl⟩ : ∃ m, k = m + 8 := ⟨k - 8, by omega⟩
  unfold nameOf
  have w2 : wrap64 (1 + 1) = 2 := wN (by decide) (by decide)
  have w3 : wrap64 (2 + 1) = 3 := wN (by decide) (by decide)
  have w4 : wrap64 (3 + 1) = 4 := wN (by decide) (by decide)
  have w5 : wrap64 (4 + 1) = 5 := wN (by decide) (by decide)
  have w6 : wrap64 (5 + 1) = 6 := wN (by decide) (by decide)
  have w7 : wrap64 (6 + 1) = 7 := wN (by decide) (by decide)
  have w8 : wrap64 (7 + 1) = 8 := wN (by decide) (by decide)
  have r1 : rdOf ByteArray.empty nmsL 1 = nm1 := rfl
  have r2 : rdOf ByteArray.empty nmsL 2 = nm2 := rfl
  have r3 : rdOf ByteArray.empty nmsL 3 = nm3 := rfl
  have r4 : rdOf ByteArray.empty nmsL 4 = nm4 := rfl
  have r5 : rdOf ByteArray.empty nmsL 5 = nm5 := rfl
  have r6 : rdOf ByteArray.empty nmsL 6 = nm6 := rfl
  have r7 : rdOf ByteArray.empty nmsL 7 = nm7 := rfl
  have hn : (nmsL.length : Int) = 8 := rfl
  simp only [foolscapref04_Read.l0, hn, r1, w2, r2, w3, r3, w4, r4, w5, r5, w6, r6, w7, r7, w8, tl_iff]
  rw [if_pos (show (1 : Int) < 8 by decide), if_pos (show (0 : Int) ≤ 1 by decide)]
  by_cases e1 : bl s = nm1
  · rw [if_pos e1, if_pos e1]; rfl
  rw [if_neg e1, if_neg e1, if_pos (show (2 : Int) < 8 by decide), if_pos (show (0 : Int) ≤ 2 by decide)]
  by_cases e2 : bl s = nm2
  · rw [if_pos e2, if_pos e2]; rfl
  rw [if_neg e2, if_neg e2, if_pos (show (3 : Int) < 8 by decide), if_pos (show (0 : Int) ≤ 3 by decide)]
  by_cases e3 : bl s = nm3
  · rw [if_pos e3, if_pos e3]; rfl
  rw [if_neg e3, if_neg e3, if_pos (show (4 : Int) < 8 by decide), if_pos (show (0 : Int) ≤ 4 by decide)]
  by_cases e4 : bl s = nm4
  · rw [if_pos e4, if_pos e4]; rfl
  rw [if_neg e4, if_neg e4, if_pos (show (5 : Int) < 8 by decide), if_pos (show (0 : Int) ≤ 5 by decide)]
  by_cases e5 : bl s = nm5
  · rw [if_pos e5, if_pos e5]; rfl
  rw [if_neg e5, if_neg e5, if_pos (show (6 : Int) < 8 by decide), if_pos (show (0 : Int) ≤ 6 by decide)]
  by_cases e6 : bl s = nm6
  · rw [if_pos e6, if_pos e6]; rfl
  rw [if_neg e6, if_neg e6, if_pos (show (7 : Int) < 8 by decide), if_pos (show (0 : Int) ≤ 7 by decide)]
  by_cases e7 : bl s = nm7
  · rw [if_pos e7, if_pos e7]; rfl
  rw [if_neg e7, if_neg e7, if_neg (show ¬ (8 : Int) < 8 by decide), bl_sz]
  by_cases c3 : s.length ≤ 255
  · rw [if_neg (by omega)]; simp only [if_pos c3]
  · rw [if_pos (by omega)]; simp only [if_neg c3]; rfl
theorem ref_Read_eq (k : Nat) (hk : 320 ≤ k) (s : List UInt8) (hs : s.length ≤ 140737488351232) : foolscapref04_Read.f k (bl s) = some (toB (readP s)) := by
  unfold foolscapref04_Read.f readP
  rw [bl_toList]
  by_cases c0 : s = []
  · rw [if_pos c0, if_pos c0]; rfl
  rw [if_neg c0, if_neg c0, ref01_Parse_eq k (by omega), Option.bind_some]
  by_cases c1 : (numL s).2 = 0
  · rw [if_pos c1, if_pos c1]; rfl
  rw [if_neg c1, if_neg c1, ref_Fold_eq s hs, Option.bind_some, bl_toList]
  obtain ⟨k, rfl⟩ : ∃ m, k = m + 1 := ⟨k - 1, by omega⟩
  have ht : truP s = (foldL s == [84, 82, 85, 69], foldL s == [84, 82, 85, 69] || foldL s == [70, 65, 76, 83, 69]) := rfl
  have hfin : (match nameOf (bl s) with
    | some i => (4, 0, bl [], false, i, 0)
    | none => if s.length ≤ 255 then (2, 0, bl s, false, 0, 0) else ((0 : Int), (0 : Int), bl [], false, (0 : Int), (7 : Int))) = toB (match nameOf (bl s) with
    | some i => (4, 0, [], false, i, 0)
    | none => if s.length ≤ 255 then (2, 0, s, false, 0, 0) else (0, 0, [], false, 0, 7)) := by
    cases nameOf (bl s) with
    | some i => rfl
    | none =>
      by_cases c3 : s.length ≤ 255
      · simp only [if_pos c3]; rfl
      · simp only [if_neg c3]; rfl
  by_cases c2 : foldL s = [84, 82, 85, 69]
  · rw [if_pos c2, ht]
    simp only [foolscapref04_Read.j0]
    rw [if_pos trivial, bl_toList, c2]; rfl
  · rw [if_neg c2, ht]
    simp only [foolscapref04_Read.j0, bl_toList]
    by_cases c4 : foldL s = [70, 65, 76, 83, 69]
    · rw [c4]; rfl
    · have e4 : (foldL s == [70, 65, 76, 83, 69]) = false := beq_eq_false_iff_ne.mpr c4
      have e2 : (foldL s == [84, 82, 85, 69]) = false := beq_eq_false_iff_ne.mpr c2
      rw [e4, e2, if_neg (show ¬ (false = true) by decide), ref_Names_eq, Option.bind_some, ref_Read_l0 k (by omega), hfin]
      rfl
end Go.Proofs.YtngdggmlfoogcaaGreatDoor.Pr
namespace Go.Proofs.YtngdggmlfoogcaaGreatDoor.Pr
set_option linter.unusedVariables false
set_option linter.unusedSimpArgs false
open Go.RowKit Go.Proofs.YtngdggmlfoogcaaGreatDoorW.PrintWords Go.Proofs.YtngdggmlfoogcaaGreatDoorW.PrintMore
def cmpZ (a b : Int) : Int := if a < b then -1 else if b < a then 1 else 0
theorem bt_at (p r : List UInt8) (c : UInt8) : bt (bl (p ++ c :: r)) (p.length : Int) = (c.toNat : Int) := by
  have hs : (⟨(p ++ c :: r).toArray⟩ : ByteArray).size = p.length + r.length + 1 := by simp [ByteArray.size]; omega
  unfold bt bl
  simp only [Int.toNat_natCast]
  rw [dif_pos (by rw [hs]; omega)]
  congr 2
  show (p ++ c :: r).toArray[p.length] = c
  simp
theorem right_len {K n : Int} {s : List UInt8} {b : Bool} {c : Int} (h : rightB K n s b c = true) : s.length ≤ 255 := by
  rcases rightB_cases h with ⟨_, _, rfl, _, _⟩ | ⟨_, _, rfl, _, _⟩ | ⟨_, hl, _, _, _⟩ | ⟨_, _, rfl, _⟩ | ⟨_, _, _, _, rfl, _⟩
  all_goals first | exact Nat.zero_le _ | exact hl
theorem z21 : cmpZ 2 1 = 1 := by decide
end Go.Proofs.YtngdggmlfoogcaaGreatDoor.Pr
namespace Go.Proofs.YtngdggmlfoogcaaGreatDoor.Pr
set_option linter.unusedVariables false
set_option linter.unusedSimpArgs false
open Go.RowKit Go.Proofs.YtngdggmlfoogcaaGreatDoorW.PrintWords Go.Proofs.YtngdggmlfoogcaaGreatDoorW.PrintMore
end Go.Proofs.YtngdggmlfoogcaaGreatDoor.Pr
end
section
namespace Go.Proofs.YtngdggmlfoogcaaGreatDoor.Pr
set_option linter.unusedVariables false
set_option linter.unusedSimpArgs false
open Go.RowKit Go.Proofs.YtngdggmlfoogcaaGreatDoorW.PrintWords Go.Proofs.YtngdggmlfoogcaaGreatDoorW.PrintMore
section
variable {α β : Type} (row : α → Bool) (fit : α → β → Bool)
def gM : List α → List β → Prop
  | [], s => s = []
  | p :: ps, s => if row p = true then ∃ k, gM ps (s.drop k) else ∃ c s', s = c :: s' ∧ fit p c = true ∧ gM ps s'
variable {row fit}
theorem gM_one {p : α} {ps : List α} {s : List β} (h : row p = false) : gM row fit (p :: ps) s ↔ ∃ c s', s = c :: s' ∧ fit p c = true ∧ gM row fit ps s' := by
  show (if row p = true then _ else _) ↔ _
  rw [if_neg (by rw [h]; decide)]
inductive GFront (row : α → Bool) (fit : α → β → Bool) : List α → List β → Prop
  | nil : GFront row fit [] []
  | snoc {P : List α} {S : List β} {p : α} {c : β} : GFront row fit P S → row p = false → fit p c = true → GFront row fit (P ++ [p]) (S ++ [c])
theorem GFront.length {P : List α} {S : List β} (h : GFront row fit P S) : P.length = S.length := by
  induction h with
  | nil => rfl
  | snoc _ _ _ ih => simp [ih]
theorem GFront.drop {P Q : List α} {S T : List β} (h : GFront row fit P S) (hm : gM row fit (P ++ Q) T) : gM row fit Q (T.drop P.length) := by
  induction h generalizing Q T with
  | nil => exact hm
  | snoc h hp hf ih =>
    rw [List.append_assoc] at hm
    have := ih hm
    obtain ⟨c, s', e, _, hm2⟩ := (gM_one hp).1 this
    rw [List.length_append, ← List.drop_drop, e]
    exact hm2
end
end Go.Proofs.YtngdggmlfoogcaaGreatDoor.Pr
end
section
namespace Go.Proofs.YtngdggmlfoogcaaGreatDoor.Pr
set_option linter.unusedVariables false
set_option linter.unusedSimpArgs false
open Go.RowKit Go.Proofs.YtngdggmlfoogcaaGreatDoorW.PrintWords Go.Proofs.YtngdggmlfoogcaaGreatDoorW.PrintMore
def signP (l : List UInt8) : List UInt8 :=
  if Lib.hasPrefix l [60, 62] = true then [60, 62] else if Lib.hasPrefix l [60, 61] = true then [60, 61] else if Lib.hasPrefix l [62, 61] = true then [62, 61]
  else if Lib.hasPrefix l [61] = true then [61] else if Lib.hasPrefix l [60] = true then [60] else if Lib.hasPrefix l [62] = true then [62] else []
theorem hp_eq (a : ByteArray) (l m : List UInt8) (h : a = bl m) : strings_HasPrefix.f (bl l) a = some (Lib.hasPrefix l m) := by
  subst h
  unfold strings_HasPrefix.f
  rw [bl_data, bl_data]
theorem crit_sign_eq (l : List UInt8) : crit_sign.f (bl l) = some (bl (signP l)) := by
  unfold crit_sign.f signP
  simp only [signFrom, sgI]
  rw [hp_eq sg0 l [60, 62] rfl, hp_eq sg1 l [60, 61] rfl, hp_eq sg2 l [62, 61] rfl, hp_eq sg3 l [61] rfl, hp_eq sg4 l [60] rfl, hp_eq sg5 l [62] rfl]
  simp only [Option.bind_some]
  split
  · rfl
  · split
    · rfl
    · split
      · rfl
      · split
        · rfl
        · split
          · rfl
          · split <;> rfl
def signB (l : List UInt8) : Bool := l == [61] || l == [60, 62] || l == [60] || l == [62] || l == [60, 61] || l == [62, 61]
theorem sign_own (l : List UInt8) : (l ≠ [] ∧ signP l = l) ↔ signB l = true := by
  constructor
  · rintro ⟨h0, h⟩
    unfold signP at h
    repeat' split at h
    all_goals first | (rw [← h]; rfl) | exact absurd h.symm h0
  · intro h
    unfold signB at h
    simp only [Bool.or_eq_true, beq_iff_eq] at h
    rcases h with ((((rfl | rfl) | rfl) | rfl) | rfl) | rfl <;> exact ⟨by simp, by decide⟩
theorem crit_Check_eq (g : List UInt8) (K n : Int) (s : List UInt8) (b : Bool) (c : Int) : crit_Check.f (bl g) K n (bl s) b c = some (if signB g = true ∧ rightB K n s b c = true then 0 else 2) := by
  unfold crit_Check.f
  rw [crit_sign_eq, value_Check_eq]
  simp only [Option.bind_some, bl_toList]
  have h := sign_own g
  by_cases h0 : g = []
  · rw [if_pos h0, if_neg (fun hh => (h.2 hh.1).1 h0)]
  · rw [if_neg h0]
    by_cases h1 : signP g = g
    · rw [if_pos h1]
      have := h.1 ⟨h0, h1⟩
      by_cases h2 : rightB K n s b c = true
      · rw [if_pos h2, if_pos ⟨this, h2⟩]
      · rw [if_neg h2, if_neg (fun hh => h2 hh.2)]
    · rw [if_neg h1, if_neg (fun hh => h1 (h.2 hh.1).2)]
end Go.Proofs.YtngdggmlfoogcaaGreatDoor.Pr
end
section
namespace Go.Proofs.YtngdggmlfoogcaaGreatDoor.Pr
set_option linter.unusedVariables false
set_option linter.unusedSimpArgs false
open Go.RowKit Go.Proofs.YtngdggmlfoogcaaGreatDoorW.PrintWords Go.Proofs.YtngdggmlfoogcaaGreatDoorW.PrintMore
theorem ref_Sign_eq (g : List UInt8) : foolscapref13_Sign.f (bl g) = some (signB g) := by
  unfold foolscapref13_Sign.f signB
  rw [bl_toList]
  by_cases h1 : g = [61]
  · rw [if_pos h1, h1]; rfl
  rw [if_neg h1]
  by_cases h2 : g = [60, 62]
  · rw [if_pos h2, h2]; rfl
  rw [if_neg h2]
  by_cases h3 : g = [60]
  · rw [if_pos h3, h3]; rfl
  rw [if_neg h3]
  by_cases h4 : g = [62]
  · rw [if_pos h4, h4]; rfl
  rw [if_neg h4]
  by_cases h5 : g = [60, 61]
  · rw [if_pos h5, h5]; rfl
  rw [if_neg h5]
  simp [h1, h2, h3, h4, h5]
theorem ref_Crit_Right_eq (g : List UInt8) (K n : Int) (s : List UInt8) (b : Bool) (c : Int) : foolscapref13_Right.f (bl g) K n (bl s) b c = some (signB g && rightB K n s b c) := by
  unfold foolscapref13_Right.f
  rw [ref_Sign_eq, Option.bind_some]
  cases h : signB g with
  | false => rw [if_neg (by decide)]; rfl
  | true => rw [if_pos rfl, ref_Right_eq, Option.bind_some]; rfl
theorem ref_Crit_Check_eq (g : List UInt8) (K n : Int) (s : List UInt8) (b : Bool) (c : Int) : foolscapref13_Check.f (bl g) K n (bl s) b c = some (if signB g = true ∧ rightB K n s b c = true then 0 else 2) := by
  unfold foolscapref13_Check.f
  rw [ref_Crit_Right_eq, Option.bind_some]
  by_cases h : signB g = true ∧ rightB K n s b c = true
  · rw [if_pos h, h.1, h.2]; rfl
  · rw [if_neg h, if_neg (by rw [Bool.and_eq_true]; exact h)]
end Go.Proofs.YtngdggmlfoogcaaGreatDoor.Pr
end
section
namespace Go.Proofs.YtngdggmlfoogcaaGreatDoor.Pr
set_option linter.unusedVariables false
set_option linter.unusedSimpArgs false
open Go.RowKit Go.Proofs.YtngdggmlfoogcaaGreatDoorW.PrintWords Go.Proofs.YtngdggmlfoogcaaGreatDoorW.PrintMore
def ofP (K n : Int) (s : List UInt8) (b : Bool) (c : Int) : List UInt8 × Int × Int × List UInt8 × Bool × Int × Int :=
  if rightB K n s b c = true then
    (if K = 2 then
      (if (readP (s.drop (signP s).length)).2.2.2.2.2 = 0 then (if signP s = [] then [61] else signP s, (readP (s.drop (signP s).length)).1, (readP (s.drop (signP s).length)).2.1, (readP (s.drop (signP s).length)).2.2.1, (readP (s.drop (signP s).length)).2.2.2.1, (readP (s.drop (signP s).length)).2.2.2.2.1, 0)
        else ([], 0, 0, [], false, 0, 2))
      else ([61], K, n, s, b, c, 0))
  else ([], 0, 0, [], false, 0, 2)
def toOf (r : List UInt8 × Int × Int × List UInt8 × Bool × Int × Int) : ByteArray × Int × Int × ByteArray × Bool × Int × Int := (bl r.1, r.2.1, r.2.2.1, bl r.2.2.2.1, r.2.2.2.2.1, r.2.2.2.2.2.1, r.2.2.2.2.2.2)
theorem signP_le (l : List UInt8) : (signP l).length ≤ l.length := by
  have h : ∀ m, Lib.hasPrefix l m = true → m.length ≤ l.length := fun m hm => (List.isPrefixOf_iff_prefix.mp hm).length_le
  unfold signP
  repeat' split
  all_goals first | exact h _ (by assumption) | exact Nat.zero_le _
theorem crit_Of_eq (k : Nat) (hk : 1 ≤ k) (K n : Int) (s : List UInt8) (b : Bool) (c : Int) : crit_Of.f k K n (bl s) b c = some (toOf (ofP K n s b c)) := by
  unfold crit_Of.f ofP
  rw [value_Check_eq, Option.bind_some]
  by_cases hr : rightB K n s b c = true
  · have hl := right_len hr
    have hs := signP_le s
    rw [if_pos hr, if_pos hr, if_pos rfl]
    by_cases h2 : K = 2
    · rw [if_pos h2, if_pos h2, crit_sign_eq, Option.bind_some]
      simp only [bl_size, bl_extract, Int.toNat_natCast, List.take_length, bl_toList]
      rw [if_pos (by omega), if_pos (by omega), value_Read_eq k hk _ (by rw [List.length_drop]; omega), Option.bind_some]
      show (if (readP (s.drop (signP s).length)).2.2.2.2.2 = 0 then _ else _) = _
      by_cases h3 : (readP (s.drop (signP s).length)).2.2.2.2.2 = 0
      · rw [if_pos h3, if_pos h3]
        by_cases h4 : signP s = []
        · rw [if_pos h4, if_pos h4]; rfl
        · rw [if_neg h4, if_neg h4]; rfl
      · rw [if_neg h3, if_neg h3]; rfl
    · rw [if_neg h2, if_neg h2]; rfl
  · rw [if_neg hr, if_neg hr, if_neg (by decide)]; rfl
theorem ref_Of_end (k : Nat) (hk : 321 ≤ k) (K n : Int) (s : List UInt8) (b : Bool) (c : Int) (hr : rightB K n s b c = true) (hK : K = 2) (m : Nat) (hm : signP s = s.take m) (hle : m ≤ s.length) :
    foolscapref13_Of.l0 k (m : Int) 3 K n (bl s) b c = some (toOf (ofP K n s b c)) := by
  obtain ⟨k, rfl⟩ : ∃ j, k = j + 1 := ⟨k - 1, by omega⟩
  have hl := right_len hr
  have hlen : (signP s).length = m := by rw [hm, List.length_take]; omega
  simp only [foolscapref13_Of.l0]
  simp only [bl_size, bl_extract, Int.toNat_natCast, List.take_length, List.drop_zero]
  rw [if_neg (by decide)]
  unfold ofP
  rw [if_pos hr, if_pos hK, hlen]
  by_cases h0 : (m : Int) > 0
  · rw [if_pos h0, if_pos (by omega), if_pos (by omega), ref_Read_eq k (by omega) _ (by rw [List.length_drop]; omega), Option.bind_some]
    show (if (readP (s.drop m)).2.2.2.2.2 = 0 then _ else _) = _
    have hne : ¬ signP s = [] := by intro h; rw [h] at hlen; simp at hlen; omega
    by_cases h3 : (readP (s.drop m)).2.2.2.2.2 = 0
    · rw [if_pos h3, if_pos h3, if_neg hne, hm]; rfl
    · rw [if_neg h3, if_neg h3]; rfl
  · rw [if_neg h0, if_pos (by omega), if_pos (by omega), ref_Read_eq k (by omega) _ (by rw [List.length_drop]; omega), Option.bind_some]
    show (if (readP (s.drop m)).2.2.2.2.2 = 0 then _ else _) = _
    have he : signP s = [] := List.eq_nil_of_length_eq_zero (by omega)
    by_cases h3 : (readP (s.drop m)).2.2.2.2.2 = 0
    · rw [if_pos h3, if_pos h3, if_pos he]; rfl
    · rw [if_neg h3, if_neg h3]; rfl
theorem signP_two (a b : UInt8) (r : List UInt8) : signP (a :: b :: r) = if signB [a, b] = true then [a, b] else if signB [a] = true then [a] else [] := by
  unfold signP signB Lib.hasPrefix
  simp only [List.isPrefixOf, Bool.and_true, Bool.and_eq_true, beq_iff_eq, Bool.or_eq_true, List.cons.injEq, and_true, List.cons_ne_nil, and_false, false_or, or_false, reduceCtorEq]
  by_cases a1 : a = 60
  · subst a1
    by_cases b1 : b = 62
    · subst b1; rfl
    · by_cases b2 : b = 61
      · subst b2; rfl
      · have e1 : ¬ 62 = b := fun h => b1 h.symm
        have e2 : ¬ 61 = b := fun h => b2 h.symm
        simp [b1, b2, e1, e2]
  · have f1 : ¬ 60 = a := fun h => a1 h.symm
    by_cases a2 : a = 62
    · subst a2
      by_cases b2 : b = 61
      · subst b2; rfl
      · have e2 : ¬ 61 = b := fun h => b2 h.symm
        simp [b2, e2]
    · have f2 : ¬ 62 = a := fun h => a2 h.symm
      by_cases a3 : a = 61
      · subst a3
        simp
      · have f3 : ¬ 61 = a := fun h => a3 h.symm
        simp [a1, a2, a3, f1, f2, f3]
theorem signP_one (a : UInt8) : signP [a] = if signB [a] = true then [a] else [] := by
  unfold signP signB Lib.hasPrefix
  simp only [List.isPrefixOf, Bool.and_true, Bool.and_eq_true, Bool.and_false, beq_iff_eq, Bool.or_eq_true, List.cons.injEq, and_true, List.cons_ne_nil, and_false, false_or, or_false, reduceCtorEq, Bool.false_eq_true, if_false]
  by_cases a1 : a = 60
  · subst a1; rfl
  · have f1 : ¬ 60 = a := fun h => a1 h.symm
    by_cases a2 : a = 62
    · subst a2; rfl
    · have f2 : ¬ 62 = a := fun h => a2 h.symm
      by_cases a3 : a = 61
      · subst a3; rfl
      · have f3 : ¬ 61 = a := fun h => a3 h.symm
        simp [a1, a2, a3, f1, f2, f3]
theorem ref_Of_eq (k : Nat) (hk : 400 ≤ k) (K n : Int) (s : List UInt8) (b : Bool) (c : Int) : foolscapref13_Of.f k K n (bl s) b c = some (toOf (ofP K n s b c)) := by
  unfold foolscapref13_Of.f
  rw [ref_Right_eq, Option.bind_some]
  by_cases hr : rightB K n s b c = true
  rotate_left
  · rw [if_neg hr]; unfold ofP; rw [if_neg hr]; rfl
  rw [if_pos hr]
  by_cases hK : K = 2
  rotate_left
  · rw [if_neg hK]; unfold ofP; rw [if_pos hr, if_neg hK]; rfl
  rw [if_pos hK]
  obtain ⟨k, rfl⟩ : ∃ j, k = j + 2 := ⟨k - 2, by omega⟩
  have w2 : wrap64 (1 + 1) = 2 := wN (by decide) (by decide)
  have w3 : wrap64 (2 + 1) = 3 := wN (by decide) (by decide)
  have t1 : (1 : Int).toNat = 1 := rfl
  have t2 : (2 : Int).toNat = 2 := rfl
  have hend : ∀ m : Nat, signP s = s.take m → m ≤ s.length → foolscapref13_Of.l0 k (m : Int) 3 K n (bl s) b c = some (toOf (ofP K n s b c)) := fun m h1 h2 => ref_Of_end k (by omega) K n s b c hr hK m h1 h2
  match s, hend with
  | [], hend =>
    simp only [foolscapref13_Of.l0, bl_size, List.length_nil]
    rw [if_pos (by decide), if_neg (by decide), w2, if_pos (by decide), if_neg (by decide), w3]
    exact hend 0 rfl (Nat.le_refl _)
  | [a], hend =>
    simp only [foolscapref13_Of.l0, bl_size, bl_extract, List.length_cons, List.length_nil, w2, w3, t1, t2]
    rw [if_pos (by decide), if_pos (by decide), if_pos (by decide), if_pos (by decide), show List.drop 0 (List.take 1 [a]) = [a] from rfl, ref_Sign_eq, Option.bind_some]
    have hs := signP_one a
    by_cases h1 : signB [a] = true
    · rw [if_pos h1, if_pos (by decide), if_neg (by decide)]
      rw [if_pos h1] at hs
      exact hend 1 hs (Nat.le_refl _)
    · rw [if_neg h1, if_pos (by decide), if_neg (by decide)]
      rw [if_neg h1] at hs
      exact hend 0 hs (Nat.zero_le _)
  | a :: b' :: r, hend =>
    simp only [foolscapref13_Of.l0, bl_size, bl_extract, List.length_cons, w2, w3, t1, t2]
    have hl : ((r.length + 1 + 1 : Nat) : Int) ≥ 2 := by omega
    rw [if_pos (by decide), if_pos (by omega), if_pos (by decide), if_pos (by omega), show List.drop 0 (List.take 1 (a :: b' :: r)) = [a] from rfl, ref_Sign_eq, Option.bind_some]
    have hs := signP_two a b' r
    by_cases h2 : signB [a, b'] = true
    · rw [if_pos h2] at hs
      have := hend 2 hs (by simp)
      by_cases h1 : signB [a] = true
      · rw [if_pos h1, if_pos (by decide), if_pos (by omega), if_pos (by decide), if_pos (by omega), show List.drop 0 (List.take 2 (a :: b' :: r)) = [a, b'] from rfl, ref_Sign_eq, Option.bind_some, if_pos h2]
        exact this
      · rw [if_neg h1, if_pos (by decide), if_pos (by omega), if_pos (by decide), if_pos (by omega), show List.drop 0 (List.take 2 (a :: b' :: r)) = [a, b'] from rfl, ref_Sign_eq, Option.bind_some, if_pos h2]
        exact this
    · rw [if_neg h2] at hs
      by_cases h1 : signB [a] = true
      · rw [if_pos h1] at hs
        rw [if_pos h1, if_pos (by decide), if_pos (by omega), if_pos (by decide), if_pos (by omega), show List.drop 0 (List.take 2 (a :: b' :: r)) = [a, b'] from rfl, ref_Sign_eq, Option.bind_some, if_neg h2]
        exact hend 1 hs (by simp)
      · rw [if_neg h1] at hs
        rw [if_neg h1, if_pos (by decide), if_pos (by omega), if_pos (by decide), if_pos (by omega), show List.drop 0 (List.take 2 (a :: b' :: r)) = [a, b'] from rfl, ref_Sign_eq, Option.bind_some, if_neg h2]
        exact hend 0 hs (by simp)
end Go.Proofs.YtngdggmlfoogcaaGreatDoor.Pr
end
section
namespace Go.Proofs.YtngdggmlfoogcaaGreatDoor.Pr
set_option linter.unusedVariables false
set_option linter.unusedSimpArgs false
open Go.RowKit Go.Proofs.YtngdggmlfoogcaaGreatDoorW.PrintWords Go.Proofs.YtngdggmlfoogcaaGreatDoorW.PrintMore
theorem crit_lives10 : foolscaplaw13_lives.f 8100010 = some true := by decide +kernel
theorem CritReads_pure (a0_0 : Int) (a0_1 : Int) (a0_2 : ByteArray) (a0_3 : Bool) (a0_4 : Int) (a1_0 : ByteArray) (a1_1 : Int) (a1_2 : Int) (a1_3 : ByteArray) (a1_4 : Bool) (a1_5 : Int) : foolscaplaw13_CritReads.f 8100010 a0_0 a0_1 a0_2 a0_3 a0_4 a1_0 a1_1 a1_2 a1_3 a1_4 a1_5 = some true := by
  rw [← bl_of a0_2, ← bl_of a1_0, ← bl_of a1_3]
  generalize a0_2.data.toList = s
  generalize a1_0.data.toList = g
  generalize a1_3.data.toList = t
  unfold foolscaplaw13_CritReads.f
  rw [crit_Of_eq 8100010 (by decide), Option.bind_some, ref_Of_eq 8100010 (by decide), Option.bind_some, crit_Check_eq, ref_Crit_Check_eq, crit_lives10]
  generalize toOf (ofP a0_0 a0_1 s a0_3 a0_4) = o
  simp only [beq_self_eq_true, Bool.and_self, Option.bind_some, if_pos]
theorem CritReads_walk (a0_0 : Int) (a0_1 : Int) (a0_2 : ByteArray) (a0_3 : Bool) (a0_4 : Int) (a1_0 : ByteArray) (a1_1 : Int) (a1_2 : Int) (a1_3 : ByteArray) (a1_4 : Bool) (a1_5 : Int) (w : World) (y0_0 : (Lit.int .i64 a0_0).wf = true) (y0_1 : (Lit.int .i64 a0_1).wf = true) (z0 : a0_2.size ≤ 140737488351232) (y0_4 : (Lit.int .i64 a0_4).wf = true) (z1_0 : a1_0.size ≤ 140737488351232) (y1_1 : (Lit.int .i64 a1_1).wf = true) (y1_2 : (Lit.int .i64 a1_2).wf = true) (z1_3 : a1_3.size ≤ 140737488351232) (y1_5 : (Lit.int .i64 a1_5).wf = true) (hL : Aside0 (LaidW w)) :
    Calls Tryz.prog 3 #[.agg #[.int .i64 a0_0, .int .i64 a0_1, .string a0_2, .bool a0_3, .int .i64 a0_4], .agg #[.string a1_0, .int .i64 a1_1, .int .i64 a1_2, .string a1_3, .bool a1_4, .int .i64 a1_5]] w fun e w' => e = .returned (.bool true) ∧ Below w.heap.size w w' :=
  foolscaplaw13_CritReads.calls 8100010 a0_0 a0_1 a0_2 a0_3 a0_4 a1_0 a1_1 a1_2 a1_3 a1_4 a1_5 true w (CritReads_pure a0_0 a0_1 a0_2 a0_3 a0_4 a1_0 a1_1 a1_2 a1_3 a1_4 a1_5)
end Go.Proofs.YtngdggmlfoogcaaGreatDoor.Pr
end
