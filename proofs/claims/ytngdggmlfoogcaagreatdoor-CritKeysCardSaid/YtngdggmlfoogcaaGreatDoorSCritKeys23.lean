/-
  What the law CritKeys leans on, out of the texts that were printed and written for this seat: only what its proof mentions (gathered by a program of the author's).
-/
import Derived.Test.YtngdggmlfoogcaaGreatDoorSCritKeys6
import Derived.Test.YtngdggmlfoogcaaGreatDoorSCritKeys16
import Derived.Test.YtngdggmlfoogcaaGreatDoorSCritKeys4
import Derived.Test.YtngdggmlfoogcaaGreatDoorSCritKeys5
import Derived.Test.YtngdggmlfoogcaaGreatDoorSCritKeys15
import Derived.Test.YtngdggmlfoogcaaGreatDoorSCritKeys18
import Derived.Test.YtngdggmlfoogcaaGreatDoorSCritKeys11
import Derived.Test.YtngdggmlfoogcaaGreatDoorSCritKeys7
import Derived.Test.YtngdggmlfoogcaaGreatDoorSCritKeys10
import Derived.Test.YtngdggmlfoogcaaGreatDoorSCritKeys13
import Derived.Test.YtngdggmlfoogcaaGreatDoorSCritKeys19
import Derived.Test.YtngdggmlfoogcaaGreatDoorSCritKeys22
import Derived.Test.YtngdggmlfoogcaaGreatDoorSCritKeys17
import Derived.Test.YtngdggmlfoogcaaGreatDoorSCritKeys14
import Derived.Test.YtngdggmlfoogcaaGreatDoorSCritKeys20
import Derived.Test.YtngdggmlfoogcaaGreatDoorSCritKeys21
import Derived.Lib.Bytealg
section
namespace Go.Proofs.YtngdggmlfoogcaaGreatDoor.Pr
set_option linter.unusedVariables false
set_option linter.unusedSimpArgs false
open Go.RowKit Go.Proofs.YtngdggmlfoogcaaGreatDoorW.PrintWords Go.Proofs.YtngdggmlfoogcaaGreatDoorW.PrintMore
def rightB (K n : Int) (s : List UInt8) (b : Bool) (c : Int) : Bool :=
  if K = 0 then n == 0 && (s == [] && (!b && c == 0))
  else if K = 1 then fitB n && (s == [] && (!b && c == 0))
  else if K = 2 then decide (s.length ≤ 255) && (n == 0 && (!b && c == 0))
  else if K = 3 then n == 0 && (s == [] && c == 0)
  else if K = 4 then decide (1 ≤ c ∧ c ≤ 7) && (n == 0 && (s == [] && !b))
  else false
theorem rightB_cases {K n : Int} {s : List UInt8} {b : Bool} {c : Int} (h : rightB K n s b c = true) :
    (K = 0 ∧ n = 0 ∧ s = [] ∧ b = false ∧ c = 0) ∨ (K = 1 ∧ fitB n = true ∧ s = [] ∧ b = false ∧ c = 0) ∨ (K = 2 ∧ s.length ≤ 255 ∧ n = 0 ∧ b = false ∧ c = 0) ∨ (K = 3 ∧ n = 0 ∧ s = [] ∧ c = 0) ∨ (K = 4 ∧ 1 ≤ c ∧ c ≤ 7 ∧ n = 0 ∧ s = [] ∧ b = false) := by
  unfold rightB at h
  by_cases k0 : K = 0
  · rw [if_pos k0] at h
    simp only [Bool.and_eq_true, beq_iff_eq, Bool.not_eq_true'] at h
    exact Or.inl ⟨k0, h.1, h.2.1, h.2.2.1, h.2.2.2⟩
  rw [if_neg k0] at h
  by_cases k1 : K = 1
  · rw [if_pos k1] at h
    simp only [Bool.and_eq_true, beq_iff_eq, Bool.not_eq_true'] at h
    exact Or.inr (Or.inl ⟨k1, h.1, h.2.1, h.2.2.1, h.2.2.2⟩)
  rw [if_neg k1] at h
  by_cases k2 : K = 2
  · rw [if_pos k2] at h
    simp only [Bool.and_eq_true, beq_iff_eq, Bool.not_eq_true', decide_eq_true_eq] at h
    exact Or.inr (Or.inr (Or.inl ⟨k2, h.1, h.2.1, h.2.2.1, h.2.2.2⟩))
  rw [if_neg k2] at h
  by_cases k3 : K = 3
  · rw [if_pos k3] at h
    simp only [Bool.and_eq_true, beq_iff_eq, Bool.not_eq_true'] at h
    exact Or.inr (Or.inr (Or.inr (Or.inl ⟨k3, h.1, h.2.1, h.2.2⟩)))
  rw [if_neg k3] at h
  by_cases k4 : K = 4
  · rw [if_pos k4] at h
    simp only [Bool.and_eq_true, beq_iff_eq, Bool.not_eq_true', decide_eq_true_eq] at h
    exact Or.inr (Or.inr (Or.inr (Or.inr ⟨k4, h.1.1, h.1.2, h.2.1, h.2.2.1, h.2.2.2⟩)))
  rw [if_neg k4] at h
  cases h
theorem bl_sz (s : List UInt8) : ((bl s).size : Int) = (s.length : Int) := by rw [bl_size]
theorem value_Check_eq (K n : Int) (s : List UInt8) (b : Bool) (c : Int) : value_Check.f K n (bl s) b c = some (if rightB K n s b c = true then 0 else 2) := by
  unfold value_Check.f rightB
  rw [num_Fits_fit]
  simp only [bl_toList, bl_sz, Option.bind_some]
  by_cases k0 : K = 0
  · simp only [if_pos k0, Bool.and_eq_true, beq_iff_eq, Bool.not_eq_true']
  simp only [if_neg k0]
  by_cases k1 : K = 1
  · simp only [if_pos k1, Bool.and_eq_true, beq_iff_eq, Bool.not_eq_true']
  simp only [if_neg k1]
  by_cases k2 : K = 2
  · simp only [if_pos k2, Bool.and_eq_true, beq_iff_eq, Bool.not_eq_true', decide_eq_true_eq]
    congr 1
    by_cases hl : s.length ≤ 255
    · simp only [hl, show ((s.length : Int) ≤ 255) = True from eq_true (by omega)]
    · simp only [hl, show ((s.length : Int) ≤ 255) = False from eq_false (by omega)]
  simp only [if_neg k2]
  by_cases k3 : K = 3
  · simp only [if_pos k3, Bool.and_eq_true, beq_iff_eq, Bool.not_eq_true']
  simp only [if_neg k3]
  by_cases k4 : K = 4
  · simp only [if_pos k4, Bool.and_eq_true, beq_iff_eq, Bool.not_eq_true', decide_eq_true_eq, and_assoc]
    congr 1
  simp only [if_neg k4]
  rfl
theorem ref_Right_eq (K n : Int) (s : List UInt8) (b : Bool) (c : Int) : foolscapref04_Right.f K n (bl s) b c = some (rightB K n s b c) := by
  unfold foolscapref04_Right.f rightB
  rw [ref01_Fits_fit]
  simp only [bl_toList, bl_sz, Option.bind_some]
  by_cases k0 : K = 0
  · simp only [if_pos k0]
    subst k0; rfl
  · simp only [if_neg k0]
    by_cases k1 : K = 1
    · simp only [if_pos k1]
      subst k1
      cases fitB n <;> rfl
    · simp only [if_neg k1]
      by_cases k2 : K = 2
      · simp only [if_pos k2]
        subst k2
        by_cases hl : s.length ≤ 255
        · rw [if_pos (by omega), decide_eq_true hl]; rfl
        · rw [if_neg (by omega), decide_eq_false hl]; rfl
      · simp only [if_neg k2]
        by_cases k3 : K = 3
        · simp only [if_pos k3]
          subst k3; rfl
        · simp only [if_neg k3]
          by_cases k4 : K = 4
          · simp only [if_pos k4]
            subst k4
            by_cases h1 : 1 ≤ c
            · rw [if_pos (show c ≥ 1 by omega)]
              by_cases h7 : c ≤ 7
              · rw [if_pos h7, decide_eq_true ⟨h1, h7⟩]; rfl
              · rw [if_neg h7, decide_eq_false (fun h => h7 h.2)]; rfl
            · rw [if_neg (show ¬ c ≥ 1 by omega), decide_eq_false (fun h => h1 h.1)]; rfl
          · simp only [if_neg k4]
def foldL (l : List UInt8) : List UInt8 := l.map up
theorem foldL_length (l : List UInt8) : (foldL l).length = l.length := by simp [foldL]
theorem value_Fold_eq (l : List UInt8) (h : l.length ≤ 140737488351232) : value_Fold.f (bl l) = some (bl (foldL l)) := by
  unfold value_Fold.f
  rw [if_pos (by rw [bl_size]; exact h)]
  unfold foldB foldL
  rw [bl_data]; rfl
theorem ref_Fold_eq (l : List UInt8) (h : l.length ≤ 140737488351232) : foolscapref04_Fold.f (bl l) = some (bl (foldL l)) := value_Fold_eq l h
def TRUEL : List UInt8 := [84, 82, 85, 69]
def FALSEL : List UInt8 := [70, 65, 76, 83, 69]
def truP (s : List UInt8) : Bool × Bool := (foldL s == TRUEL, foldL s == TRUEL || foldL s == FALSEL)
def wordsP (K n : Int) (s : List UInt8) (b : Bool) (c : Int) : List UInt8 × Int :=
  if rightB K n s b c = true then (if K = 4 then ([], c) else if K = 1 then (printL n, 0) else if K = 3 then (if b = true then TRUEL else FALSEL, 0) else (s, 0)) else ([], 2)
theorem value_code_eq (K n : Int) (s : List UInt8) (b : Bool) (c : Int) : value_code.f K n (bl s) b c = some (if rightB K n s b c = true then c else 2) := by
  unfold value_code.f
  rw [value_Check_eq, Option.bind_some]
  cases rightB K n s b c <;> rfl
theorem value_Words_eq (K n : Int) (s : List UInt8) (b : Bool) (c : Int) : value_Words.f K n (bl s) b c = some (bl (wordsP K n s b c).1, (wordsP K n s b c).2) := by
  unfold value_Words.f wordsP
  rw [value_code_eq, Option.bind_some]
  cases h : rightB K n s b c with
  | false => rfl
  | true =>
    rcases rightB_cases h with ⟨rfl, rfl, rfl, rfl, rfl⟩ | ⟨rfl, hf, rfl, rfl, rfl⟩ | ⟨rfl, hl, rfl, rfl, rfl⟩ | ⟨rfl, rfl, rfl, rfl⟩ | ⟨rfl, h1, h7, rfl, rfl, rfl⟩
    · rfl
    · simp only [if_true]
      rw [num_Print_all, if_pos hf]; rfl
    · rfl
    · cases b <;> rfl
    · simp only [if_true]
      rw [if_neg (by omega)]; rfl
end Go.Proofs.YtngdggmlfoogcaaGreatDoor.Pr
namespace Go.Proofs.YtngdggmlfoogcaaGreatDoor.Pr
set_option linter.unusedVariables false
set_option linter.unusedSimpArgs false
open Go.RowKit Go.Proofs.YtngdggmlfoogcaaGreatDoorW.PrintWords Go.Proofs.YtngdggmlfoogcaaGreatDoorW.PrintMore
def nameL (c : Int) : List UInt8 := (nameZ c).data.toList
theorem nameZ_bl (c : Int) : nameZ c = bl (nameL c) := (bl_of _).symm
def showP (K n : Int) (s : List UInt8) (b : Bool) (c : Int) : List UInt8 × Int :=
  if rightB K n s b c = true then (if K = 4 then (nameL c, 0) else ((wordsP K n s b c).1, 0)) else ([], 2)
theorem value_Show_eq (K n : Int) (s : List UInt8) (b : Bool) (c : Int) : value_Show.f K n (bl s) b c = some (bl (showP K n s b c).1, (showP K n s b c).2) := by
  unfold value_Show.f showP
  rw [value_Check_eq, Option.bind_some]
  cases h : rightB K n s b c with
  | false => rfl
  | true =>
    simp only [if_true]
    rw [value_Words_eq, Option.bind_some]
    rcases rightB_cases h with ⟨rfl, rfl, rfl, rfl, rfl⟩ | ⟨rfl, hf, rfl, rfl, rfl⟩ | ⟨rfl, hl, rfl, rfl, rfl⟩ | ⟨rfl, rfl, rfl, rfl⟩ | ⟨rfl, h1, h7, rfl, rfl, rfl⟩
    · unfold wordsP; rw [if_pos h]; rfl
    · unfold wordsP; rw [if_pos h]; rfl
    · unfold wordsP; rw [if_pos h]; rfl
    · unfold wordsP; rw [if_pos h]; rfl
    · unfold wordsP
      rw [if_pos h]
      simp only [if_true]
      rw [if_neg (by omega), if_pos ⟨h1, h7⟩, nameZ_bl]
def readP (s : List UInt8) : Int × Int × List UInt8 × Bool × Int × Int :=
  if s = [] then (0, 0, [], false, 0, 0) else if (numL s).2 = 0 then (1, (numL s).1, [], false, 0, 0) else if (truP s).2 = true then (3, 0, [], (truP s).1, 0, 0) else match nameOf (bl s) with
  | some i => (4, 0, [], false, i, 0)
  | none => if s.length ≤ 255 then (2, 0, s, false, 0, 0) else (0, 0, [], false, 0, 7)
end Go.Proofs.YtngdggmlfoogcaaGreatDoor.Pr
namespace Go.Proofs.YtngdggmlfoogcaaGreatDoor.Pr
set_option linter.unusedVariables false
set_option linter.unusedSimpArgs false
open Go.RowKit Go.Proofs.YtngdggmlfoogcaaGreatDoorW.PrintWords Go.Proofs.YtngdggmlfoogcaaGreatDoorW.PrintMore
def cmpZ (a b : Int) : Int := if a < b then -1 else if b < a then 1 else 0
theorem bt_at (p r : List UInt8) (c : UInt8) : bt (bl (p ++ c :: r)) (p.length : Int) = (c.toNat : Int) := by
  have hs : (⟨(p ++ c :: r).toArray⟩ : ByteArray).size = p.length + r.length + 1 := by simp [ByteArray.size]; omega
  unfold bt bl
  simp only [Int.toNat_natCast]
  rw [dif_pos (by rw [hs]; omega)]
  congr 2
  show (p ++ c :: r).toArray[p.length] = c
  simp
theorem right_len {K n : Int} {s : List UInt8} {b : Bool} {c : Int} (h : rightB K n s b c = true) : s.length ≤ 255 := by
  rcases rightB_cases h with ⟨_, _, rfl, _, _⟩ | ⟨_, _, rfl, _, _⟩ | ⟨_, hl, _, _, _⟩ | ⟨_, _, rfl, _⟩ | ⟨_, _, _, _, rfl, _⟩
  all_goals first | exact Nat.zero_le _ | exact hl
theorem z21 : cmpZ 2 1 = 1 := by decide
end Go.Proofs.YtngdggmlfoogcaaGreatDoor.Pr
namespace Go.Proofs.YtngdggmlfoogcaaGreatDoor.Pr
set_option linter.unusedVariables false
set_option linter.unusedSimpArgs false
open Go.RowKit Go.Proofs.YtngdggmlfoogcaaGreatDoorW.PrintWords Go.Proofs.YtngdggmlfoogcaaGreatDoorW.PrintMore
theorem printL_len (n : Int) (h : fitB n = true) : (printL n).length ≤ 40 := by
  have h' := of_decide_eq_true h
  refine Nat.le_of_not_lt fun hlt => ?_
  have := numL_printL n h'
  unfold numL at this
  rw [if_pos hlt] at this
  exact absurd (Prod.mk.inj this).2 (by decide)
theorem printL_ne (n : Int) (h : fitB n = true) : ¬ printL n = [] := by
  intro h0
  have := numL_printL n (of_decide_eq_true h)
  rw [h0] at this
  exact absurd (Prod.mk.inj this).2 (by decide)
theorem read_show (K n : Int) (s : List UInt8) (b : Bool) (c : Int) (h : rightB K n s b c = true) (hK : ¬ K = 2) : readP (showP K n s b c).1 = (K, n, s, b, c, 0) := by
  unfold showP
  rw [if_pos h]
  rcases rightB_cases h with ⟨rfl, rfl, rfl, rfl, rfl⟩ | ⟨rfl, hf, rfl, rfl, rfl⟩ | ⟨rfl, hl, rfl, rfl, rfl⟩ | ⟨rfl, rfl, rfl, rfl⟩ | ⟨rfl, h1, h7, rfl, rfl, rfl⟩
  · rfl
  · rw [if_neg (by decide)]
    unfold wordsP
    rw [if_pos h, if_neg (by decide), if_pos rfl]
    unfold readP
    simp only
    rw [if_neg (printL_ne n hf), numL_printL n (of_decide_eq_true hf), if_pos rfl]
  · exact absurd rfl hK
  · cases b <;> decide +kernel
  · clear h
    have hc : c = 1 ∨ c = 2 ∨ c = 3 ∨ c = 4 ∨ c = 5 ∨ c = 6 ∨ c = 7 := by omega
    rcases hc with rfl | rfl | rfl | rfl | rfl | rfl | rfl <;> decide +kernel
end Go.Proofs.YtngdggmlfoogcaaGreatDoor.Pr
end
section
namespace Go.Proofs.YtngdggmlfoogcaaGreatDoor.Pr
set_option linter.unusedVariables false
set_option linter.unusedSimpArgs false
open Go.RowKit Go.Proofs.YtngdggmlfoogcaaGreatDoorW.PrintWords Go.Proofs.YtngdggmlfoogcaaGreatDoorW.PrintMore
section
variable {α β : Type} (row : α → Bool) (fit : α → β → Bool)
def gM : List α → List β → Prop
  | [], s => s = []
  | p :: ps, s => if row p = true then ∃ k, gM ps (s.drop k) else ∃ c s', s = c :: s' ∧ fit p c = true ∧ gM ps s'
variable {row fit}
theorem gM_one {p : α} {ps : List α} {s : List β} (h : row p = false) : gM row fit (p :: ps) s ↔ ∃ c s', s = c :: s' ∧ fit p c = true ∧ gM row fit ps s' := by
  show (if row p = true then _ else _) ↔ _
  rw [if_neg (by rw [h]; decide)]
inductive GFront (row : α → Bool) (fit : α → β → Bool) : List α → List β → Prop
  | nil : GFront row fit [] []
  | snoc {P : List α} {S : List β} {p : α} {c : β} : GFront row fit P S → row p = false → fit p c = true → GFront row fit (P ++ [p]) (S ++ [c])
theorem GFront.length {P : List α} {S : List β} (h : GFront row fit P S) : P.length = S.length := by
  induction h with
  | nil => rfl
  | snoc _ _ _ ih => simp [ih]
theorem GFront.drop {P Q : List α} {S T : List β} (h : GFront row fit P S) (hm : gM row fit (P ++ Q) T) : gM row fit Q (T.drop P.length) := by
  induction h generalizing Q T with
  | nil => exact hm
  | snoc h hp hf ih =>
    rw [List.append_assoc] at hm
    have := ih hm
    obtain ⟨c, s', e, _, hm2⟩ := (gM_one hp).1 this
    rw [List.length_append, ← List.drop_drop, e]
    exact hm2
end
def stepsL : List UInt8 → Bool → List (Int × Int)
  | [], false => []
  | [], true => [(0, 126)]
  | c :: r, true => (0, (c.toNat : Int)) :: stepsL r false
  | c :: r, false => if c = 126 then stepsL r true else if c = 63 ∨ c = 42 then ((c.toNat : Int), 0) :: stepsL r false else (0, (c.toNat : Int)) :: stepsL r false
abbrev CS := S66
def toC (p : Int × Int) : CS := ⟨p.1 == 63, p.1 == 42, p.2⟩
theorem stepsL_length : ∀ (l : List UInt8) (b : Bool), (stepsL l b).length ≤ l.length + 1
  | [], false => by simp [stepsL]
  | [], true => by simp [stepsL]
  | c :: r, true => by have := stepsL_length r false; simp only [stepsL, List.length_cons]; omega
  | c :: r, false => by
    have h1 := stepsL_length r false
    have h2 := stepsL_length r true
    simp only [stepsL]
    split
    · simp only [List.length_cons]; omega
    · split <;> (simp only [List.length_cons]; omega)
theorem u8_is (c : UInt8) (n : UInt8) : ((c.toNat : Int) = (n.toNat : Int)) = (c = n) := by
  refine propext ⟨fun h => UInt8.toNat_inj.mp (by omega), fun h => by rw [h]⟩
theorem rd_mid (p r : List Int) (x : Int) : rd (p ++ x :: r) (p.length : Int) = x := by simp [rd]
theorem numsOf_bl (l : List UInt8) : numsOf (bl l) = l.map fun c => (c.toNat : Int) := by unfold numsOf; rw [bl_data]
theorem crit_stepsB_l0 (l : List UInt8) (hl : l.length ≤ 40000000000000) : ∀ (r pre : List UInt8) (k : Nat) (pl : Bool) (acc : List CS), 2 * r.length + 2 ≤ k → l = pre ++ r → acc.length ≤ pre.length →
    crit_stepsB.l0 k acc pl (l.map fun c => (c.toNat : Int)) (l.length : Int) (pre.length : Int) = some (acc ++ (stepsL r pl).map toC) := by
  intro r
  induction r with
  | nil =>
    intro pre k pl acc hk h ha
    obtain ⟨k, rfl⟩ : ∃ m, k = m + 1 := ⟨k - 1, by omega⟩
    have hlen : l.length = pre.length := by rw [h]; simp
    simp only [crit_stepsB.l0]
    rw [if_neg (by omega)]
    cases pl with
    | true => rw [if_pos (by first | trivial | rfl), if_pos (by omega)]; rfl
    | false => rw [if_neg (by first | exact Bool.false_ne_true | exact not_false)]; simp [stepsL]
  | cons c r ih =>
    intro pre k pl acc hk h ha
    simp only [List.length_cons] at hk
    obtain ⟨k, rfl⟩ : ∃ m, k = m + 2 := ⟨k - 2, by omega⟩
    have hlen : l.length = pre.length + r.length + 1 := by rw [h]; simp; omega
    have hrd : rd (l.map fun c => (c.toNat : Int)) (pre.length : Int) = (c.toNat : Int) := by
      rw [h, List.map_append, List.map_cons]
      have := rd_mid (pre.map fun c => (c.toNat : Int)) (r.map fun c => (c.toNat : Int)) (c.toNat : Int)
      rw [List.length_map] at this
      exact this
    have hw : wrap64 ((pre.length : Int) + 1) = ((pre ++ [c]).length : Int) := by rw [wN (by omega) (by omega)]; simp
    have hn : l = (pre ++ [c]) ++ r := by rw [h]; simp
    have hacc : ∀ x : CS, (acc ++ [x]).length ≤ (pre ++ [c]).length := fun x => by simp; omega
    have hacc' : acc.length ≤ (pre ++ [c]).length := by simp; omega
    have e126 : ((c.toNat : Int) = 126) = (c = 126) := u8_is c 126
    have e63 : ((c.toNat : Int) = 63) = (c = 63) := u8_is c 63
    have e42 : ((c.toNat : Int) = 42) = (c = 42) := u8_is c 42
    simp only [crit_stepsB.l0, hrd]
    rw [if_pos (by omega), if_pos (by omega), if_pos (by rw [List.length_map]; omega)]
    cases pl with
    | true =>
      rw [if_pos (by first | trivial | rfl)]
      simp only [crit_stepsB.j1]
      rw [if_pos (by first | trivial | rfl), if_pos (by omega), hw, ih (pre ++ [c]) k false _ (by omega) hn (hacc _)]
      simp [stepsL, toC]
    | false =>
      rw [if_neg (by first | exact Bool.false_ne_true | exact not_false)]
      by_cases c1 : c = 126
      · rw [if_pos (by rw [e126]; exact c1)]
        simp only [crit_stepsB.j1]
        rw [if_neg (by first | exact Bool.false_ne_true | exact not_false), if_pos (by rw [e126]; exact c1), hw, ih (pre ++ [c]) k true _ (by omega) hn hacc']
        simp only [stepsL]
        rw [if_pos c1]
      · have n126 : ¬ (c.toNat : Int) = 126 := by rw [e126]; exact c1
        rw [if_neg n126]
        by_cases c2 : c = 63
        · rw [if_pos (by rw [e63]; exact c2)]
          simp only [crit_stepsB.j1]
          rw [if_neg (by first | exact Bool.false_ne_true | exact not_false), if_neg n126, if_pos (by omega), hw, ih (pre ++ [c]) k false _ (by omega) hn (hacc _)]
          simp only [stepsL]
          rw [if_neg c1, if_pos (Or.inl c2)]
          subst c2
          simp [toC]
        · rw [if_neg (by rw [e63]; exact c2)]
          by_cases c3 : c = 42
          · rw [show ((c.toNat : Int) != 42) = false by rw [c3]; rfl]
            simp only [crit_stepsB.j1]
            rw [if_neg (by first | exact Bool.false_ne_true | exact not_false), if_neg n126, if_pos (by omega), hw, ih (pre ++ [c]) k false _ (by omega) hn (hacc _)]
            simp only [stepsL]
            rw [if_neg c1, if_pos (Or.inr c3)]
            subst c3
            simp [toC]
          · rw [show ((c.toNat : Int) != 42) = true by rw [bne_iff_ne]; intro h; rw [e42] at h; exact c3 h]
            simp only [crit_stepsB.j1]
            rw [if_pos (by first | trivial | rfl), if_pos (by omega), hw, ih (pre ++ [c]) k false _ (by omega) hn (hacc _)]
            simp only [stepsL]
            rw [if_neg c1, if_neg (by intro h; exact h.elim c2 c3)]
            simp [toC]
theorem crit_steps_eq (k : Nat) (l : List UInt8) (hl : l.length ≤ 40000000000000) (hk : 2 * l.length + 2 ≤ k) : crit_steps.f k (bl l) = some ((stepsL (foldL l) false).map toC) := by
  unfold crit_steps.f
  rw [value_Fold_eq l (by omega), Option.bind_some, if_pos (by rw [bl_size, foldL_length]; omega), numsOf_bl]
  unfold crit_stepsB.f
  have := crit_stepsB_l0 (foldL l) (by rw [foldL_length]; exact hl) (foldL l) [] k false [] (by rw [foldL_length]; exact hk) rfl (Nat.le_refl _)
  rw [List.length_map]
  simpa using this
theorem rdC (p r : List CS) (x : CS) : rd_T66 (p ++ x :: r) (p.length : Int) = x := by simp [rd_T66]
theorem bt_mid (p r : List UInt8) (c : UInt8) : bt (bl (p ++ c :: r)) (p.length : Int) = (c.toNat : Int) := bt_at p r c
def wildB (l : List (Int × Int)) : Bool := l.any fun p => p.1 == 63 || p.1 == 42
end Go.Proofs.YtngdggmlfoogcaaGreatDoor.Pr
end
section
namespace Go.Proofs.YtngdggmlfoogcaaGreatDoor.Pr
set_option linter.unusedVariables false
set_option linter.unusedSimpArgs false
open Go.RowKit Go.Proofs.YtngdggmlfoogcaaGreatDoorW.PrintWords Go.Proofs.YtngdggmlfoogcaaGreatDoorW.PrintMore
def signP (l : List UInt8) : List UInt8 :=
  if Lib.hasPrefix l [60, 62] = true then [60, 62] else if Lib.hasPrefix l [60, 61] = true then [60, 61] else if Lib.hasPrefix l [62, 61] = true then [62, 61]
  else if Lib.hasPrefix l [61] = true then [61] else if Lib.hasPrefix l [60] = true then [60] else if Lib.hasPrefix l [62] = true then [62] else []
theorem hp_eq (a : ByteArray) (l m : List UInt8) (h : a = bl m) : strings_HasPrefix.f (bl l) a = some (Lib.hasPrefix l m) := by
  subst h
  unfold strings_HasPrefix.f
  rw [bl_data, bl_data]
theorem crit_sign_eq (l : List UInt8) : crit_sign.f (bl l) = some (bl (signP l)) := by
  unfold crit_sign.f signP
  simp only [signFrom, sgI]
  rw [hp_eq sg0 l [60, 62] rfl, hp_eq sg1 l [60, 61] rfl, hp_eq sg2 l [62, 61] rfl, hp_eq sg3 l [61] rfl, hp_eq sg4 l [60] rfl, hp_eq sg5 l [62] rfl]
  simp only [Option.bind_some]
  split
  · rfl
  · split
    · rfl
    · split
      · rfl
      · split
        · rfl
        · split
          · rfl
          · split <;> rfl
def signB (l : List UInt8) : Bool := l == [61] || l == [60, 62] || l == [60] || l == [62] || l == [60, 61] || l == [62, 61]
theorem sign_own (l : List UInt8) : (l ≠ [] ∧ signP l = l) ↔ signB l = true := by
  constructor
  · rintro ⟨h0, h⟩
    unfold signP at h
    repeat' split at h
    all_goals first | (rw [← h]; rfl) | exact absurd h.symm h0
  · intro h
    unfold signB at h
    simp only [Bool.or_eq_true, beq_iff_eq] at h
    rcases h with ((((rfl | rfl) | rfl) | rfl) | rfl) | rfl <;> exact ⟨by simp, by decide⟩
theorem crit_Check_eq (g : List UInt8) (K n : Int) (s : List UInt8) (b : Bool) (c : Int) : crit_Check.f (bl g) K n (bl s) b c = some (if signB g = true ∧ rightB K n s b c = true then 0 else 2) := by
  unfold crit_Check.f
  rw [crit_sign_eq, value_Check_eq]
  simp only [Option.bind_some, bl_toList]
  have h := sign_own g
  by_cases h0 : g = []
  · rw [if_pos h0, if_neg (fun hh => (h.2 hh.1).1 h0)]
  · rw [if_neg h0]
    by_cases h1 : signP g = g
    · rw [if_pos h1]
      have := h.1 ⟨h0, h1⟩
      by_cases h2 : rightB K n s b c = true
      · rw [if_pos h2, if_pos ⟨this, h2⟩]
      · rw [if_neg h2, if_neg (fun hh => h2 hh.2)]
    · rw [if_neg h1, if_neg (fun hh => h1 (h.2 hh.1).2)]
end Go.Proofs.YtngdggmlfoogcaaGreatDoor.Pr
end
section
namespace Go.Proofs.YtngdggmlfoogcaaGreatDoor.Pr
set_option linter.unusedVariables false
set_option linter.unusedSimpArgs false
open Go.RowKit Go.Proofs.YtngdggmlfoogcaaGreatDoorW.PrintWords Go.Proofs.YtngdggmlfoogcaaGreatDoorW.PrintMore
abbrev RS := S92
def toR (p : Int × Int) : RS := ⟨p.1, p.2⟩
theorem ref_steps_l0 (l : List UInt8) (hl : l.length ≤ 40000000000000) : ∀ (n : Nat) (r pre : List UInt8) (k : Nat) (acc : List RS), r.length ≤ n → 2 * r.length + 1 ≤ k → l = pre ++ r → acc.length ≤ pre.length →
    foolscapref13_steps.l0 k (bl l) acc (pre.length : Int) = some (acc ++ (stepsL r false).map toR) := by
  intro n
  induction n with
  | zero =>
    intro r pre k acc hn hk h ha
    obtain rfl : r = [] := List.eq_nil_of_length_eq_zero (by omega)
    obtain ⟨k, rfl⟩ : ∃ m, k = m + 1 := ⟨k - 1, by omega⟩
    simp only [foolscapref13_steps.l0, bl_size]
    rw [if_neg (by rw [h]; simp)]
    simp [stepsL]
  | succ n ih =>
    intro r pre k acc hn hk h ha
    obtain ⟨k, rfl⟩ : ∃ m, k = m + 1 := ⟨k - 1, by omega⟩
    cases r with
    | nil =>
      simp only [foolscapref13_steps.l0, bl_size]
      rw [if_neg (by rw [h]; simp)]
      simp [stepsL]
    | cons c r =>
      simp only [List.length_cons] at hn hk
      obtain ⟨k, rfl⟩ : ∃ m, k = m + 1 := ⟨k - 1, by omega⟩
      have hlen : l.length = pre.length + r.length + 1 := by rw [h]; simp; omega
      have hb : bt (bl l) (pre.length : Int) = (c.toNat : Int) := by rw [h]; exact bt_mid pre r c
      have ew : wrap64 ((pre.length : Int) + 1) = (pre.length : Int) + 1 := wN (by omega) (by omega)
      have hone : ∀ x : RS, foolscapref13_steps.l0 k (bl l) (acc ++ [x]) ((pre.length : Int) + 1) = some (acc ++ [x] ++ (stepsL r false).map toR) := by
        intro x
        have := ih r (pre ++ [c]) k (acc ++ [x]) (by omega) (by omega) (by rw [h]; simp) (by simp; omega)
        rw [show (((pre ++ [c]).length : Nat) : Int) = (pre.length : Int) + 1 by simp] at this
        exact this
      simp only [foolscapref13_steps.l0, bl_size]
      rw [if_pos (by omega), if_pos (by omega), hb, ew]
      have e126 : ((c.toNat : Int) = 126) ↔ c = 126 := iff_of_eq (u8_is c 126)
      have e42 : ((c.toNat : Int) = 42) ↔ c = 42 := iff_of_eq (u8_is c 42)
      have e63 : ((c.toNat : Int) = 63) ↔ c = 63 := iff_of_eq (u8_is c 63)
      have hf : foolscapref13_steps.j1 (k + 1) (bl l) acc (pre.length : Int) false = some (acc ++ (if c = 63 ∨ c = 42 then toR ((c.toNat : Int), 0) else toR (0, (c.toNat : Int))) :: (stepsL r false).map toR) := by
        simp only [foolscapref13_steps.j1, bl_size]
        rw [if_neg (by first | exact Bool.false_ne_true | exact not_false), if_pos (by omega), if_pos (by omega), hb, ew]
        by_cases c42 : c = 42
        · rw [if_pos (e42.2 c42), if_pos (by omega), hone, if_pos (Or.inr c42)]; simp [toR]
        rw [if_neg (fun hh => c42 (e42.1 hh))]
        by_cases c63 : c = 63
        · rw [if_pos (e63.2 c63), if_pos (by omega), hone, if_pos (Or.inl c63)]; simp [toR]
        rw [if_neg (fun hh => c63 (e63.1 hh)), if_pos (by omega), hone, if_neg (fun hh => hh.elim c63 c42)]
        simp [toR]
      by_cases c126 : c = 126
      · rw [if_pos (e126.2 c126)]
        cases r with
        | nil =>
          rw [show decide ((pre.length : Int) + 1 < (l.length : Int)) = false from decide_eq_false (by rw [hlen]; simp), hf, c126]
          rfl
        | cons d r =>
          simp only [List.length_cons] at hn hk hlen
          rw [show decide ((pre.length : Int) + 1 < (l.length : Int)) = true from decide_eq_true (by omega)]
          have hd : bt (bl l) ((pre.length : Int) + 1) = (d.toNat : Int) := by
            have := bt_mid (pre ++ [c]) r d
            rw [show (((pre ++ [c]).length : Nat) : Int) = (pre.length : Int) + 1 by simp] at this
            rw [h, ← this]; simp
          have := ih r (pre ++ [c, d]) k (acc ++ [toR (0, (d.toNat : Int))]) (by omega) (by omega) (by rw [h]; simp) (by simp; omega)
          rw [show (((pre ++ [c, d]).length : Nat) : Int) = (pre.length : Int) + 1 + 1 by simp; omega] at this
          simp only [foolscapref13_steps.j1, bl_size]
          rw [if_pos (by first | trivial | rfl), ew, if_pos (by omega), if_pos (by omega), if_pos (by omega), hd, wN (by omega) (by omega)]
          refine this.trans ?_
          rw [c126]
          simp [stepsL, toR]
      · rw [if_neg (fun hh => c126 (e126.1 hh)), hf]
        simp only [stepsL]
        rw [if_neg c126]
        by_cases cc : c = 63 ∨ c = 42
        · rw [if_pos cc, if_pos cc]; rfl
        · rw [if_neg cc, if_neg cc]; rfl
theorem ref_steps_eq (k : Nat) (l : List UInt8) (hl : l.length ≤ 40000000000000) (hk : 2 * l.length + 1 ≤ k) : foolscapref13_steps.f k (bl l) = some ((stepsL l false).map toR) := by
  have := ref_steps_l0 l hl l.length l [] k [] (Nat.le_refl _) hk rfl (Nat.le_refl _)
  rw [List.nil_append] at this
  exact this
theorem up_sign (c : UInt8) (n : UInt8) (hn : n = 63 ∨ n = 42 ∨ n = 126) : (up c = n) ↔ (c = n) := by
  by_cases g : 97 ≤ c.toNat ∧ c.toNat ≤ 122
  · have h1 := up_le c g.1 g.2
    have e1 : ((63 : UInt8).toNat : Int) = 63 := rfl
    have e2 : ((42 : UInt8).toNat : Int) = 42 := rfl
    have e3 : ((126 : UInt8).toNat : Int) = 126 := rfl
    rcases hn with rfl | rfl | rfl
    all_goals
      constructor
      · intro h; rw [h] at h1; omega
      · intro h; rw [h] at g; exact absurd g (by decide)
  · rw [up_no c g]
def wildR : List UInt8 → Bool → Bool
  | [], _ => false
  | c :: r, true => wildR r false
  | c :: r, false => if c = 126 then wildR r true else if c = 63 ∨ c = 42 then true else wildR r false
theorem wild_steps : ∀ (l : List UInt8) (b : Bool), wildB (stepsL (foldL l) b) = wildR l b
  | [], false => rfl
  | [], true => rfl
  | c :: r, true => by
    show wildB ((0, ((up c).toNat : Int)) :: stepsL (foldL r) false) = wildR r false
    rw [← wild_steps r false]
    rfl
  | c :: r, false => by
    show wildB (stepsL (up c :: foldL r) false) = _
    simp only [stepsL, wildR]
    by_cases h1 : c = 126
    · rw [if_pos ((up_sign c 126 (by simp)).2 h1), if_pos h1, wild_steps r true]
    · rw [if_neg (fun h => h1 ((up_sign c 126 (by simp)).1 h)), if_neg h1]
      by_cases h2 : c = 63 ∨ c = 42
      · rw [if_pos (h2.imp (up_sign c 63 (by simp)).2 (up_sign c 42 (by simp)).2), if_pos h2]
        rcases h2 with rfl | rfl <;> rfl
      · rw [if_neg (fun h => h2 (h.imp (up_sign c 63 (by simp)).1 (up_sign c 42 (by simp)).1)), if_neg h2, ← wild_steps r false]
        rfl
theorem ref_Wild_l0 (l : List UInt8) (hl : l.length ≤ 140737488351232) : ∀ (n : Nat) (r pre : List UInt8) (k : Nat), r.length ≤ n → r.length + 1 ≤ k → l = pre ++ r →
    foolscapref13_Wild.l0 k (bl l) (pre.length : Int) = some (wildR r false) := by
  intro n
  induction n with
  | zero =>
    intro r pre k hn hk h
    obtain rfl : r = [] := List.eq_nil_of_length_eq_zero (by omega)
    obtain ⟨k, rfl⟩ : ∃ m, k = m + 1 := ⟨k - 1, by omega⟩
    simp only [foolscapref13_Wild.l0, bl_size]
    rw [if_neg (by rw [h]; simp)]
    rfl
  | succ n ih =>
    intro r pre k hn hk h
    obtain ⟨k, rfl⟩ : ∃ m, k = m + 1 := ⟨k - 1, by omega⟩
    cases r with
    | nil =>
      simp only [foolscapref13_Wild.l0, bl_size]
      rw [if_neg (by rw [h]; simp)]
      rfl
    | cons c r =>
      simp only [List.length_cons] at hn hk
      have hlen : l.length = pre.length + r.length + 1 := by rw [h]; simp; omega
      have hb : bt (bl l) (pre.length : Int) = (c.toNat : Int) := by rw [h]; exact bt_mid pre r c
      have ew : wrap64 ((pre.length : Int) + 1) = (pre.length : Int) + 1 := wN (by omega) (by omega)
      have e126 : ((c.toNat : Int) = 126) ↔ c = 126 := iff_of_eq (u8_is c 126)
      have e42 : ((c.toNat : Int) = 42) ↔ c = 42 := iff_of_eq (u8_is c 42)
      have e63 : ((c.toNat : Int) = 63) ↔ c = 63 := iff_of_eq (u8_is c 63)
      simp only [foolscapref13_Wild.l0, bl_size]
      rw [if_pos (by omega), if_pos (by omega), hb, ew]
      simp only [wildR]
      by_cases c126 : c = 126
      · rw [if_pos (e126.2 c126), if_pos c126, wN (by omega) (by omega)]
        cases r with
        | nil =>
          obtain ⟨k, rfl⟩ : ∃ m, k = m + 1 := ⟨k - 1, by omega⟩
          simp only [foolscapref13_Wild.l0, bl_size]
          rw [if_neg (by rw [hlen]; simp; omega)]
          rfl
        | cons d r =>
          simp only [List.length_cons] at hn hk hlen
          have := ih r (pre ++ [c, d]) k (by omega) (by omega) (by rw [h]; simp)
          rw [show (((pre ++ [c, d]).length : Nat) : Int) = (pre.length : Int) + 1 + 1 by simp; omega] at this
          exact this
      · have hone := ih r (pre ++ [c]) k (by omega) (by omega) (by rw [h]; simp)
        rw [show (((pre ++ [c]).length : Nat) : Int) = (pre.length : Int) + 1 by simp] at hone
        rw [if_neg (fun hh => c126 (e126.1 hh)), if_neg c126]
        by_cases c63 : c = 63
        · rw [if_pos (e63.2 c63), if_pos (Or.inl c63)]
        rw [if_neg (fun hh => c63 (e63.1 hh))]
        by_cases c42 : c = 42
        · rw [if_pos (e42.2 c42), if_pos (Or.inr c42)]
        rw [if_neg (fun hh => c42 (e42.1 hh)), if_neg (fun hh => hh.elim c63 c42)]
        exact hone
theorem ref_Wild_eq (k : Nat) (p : List UInt8) (hp : p.length ≤ 140737488351232) (hk : p.length + 1 ≤ k) : foolscapref13_Wild.f k (bl p) = some (wildB (stepsL (foldL p) false)) := by
  rw [wild_steps]
  exact ref_Wild_l0 p hp p.length p [] k (Nat.le_refl _) hk rfl
theorem ref_Sign_eq (g : List UInt8) : foolscapref13_Sign.f (bl g) = some (signB g) := by
  unfold foolscapref13_Sign.f signB
  rw [bl_toList]
  by_cases h1 : g = [61]
  · rw [if_pos h1, h1]; rfl
  rw [if_neg h1]
  by_cases h2 : g = [60, 62]
  · rw [if_pos h2, h2]; rfl
  rw [if_neg h2]
  by_cases h3 : g = [60]
  · rw [if_pos h3, h3]; rfl
  rw [if_neg h3]
  by_cases h4 : g = [62]
  · rw [if_pos h4, h4]; rfl
  rw [if_neg h4]
  by_cases h5 : g = [60, 61]
  · rw [if_pos h5, h5]; rfl
  rw [if_neg h5]
  simp [h1, h2, h3, h4, h5]
theorem ref_Crit_Right_eq (g : List UInt8) (K n : Int) (s : List UInt8) (b : Bool) (c : Int) : foolscapref13_Right.f (bl g) K n (bl s) b c = some (signB g && rightB K n s b c) := by
  unfold foolscapref13_Right.f
  rw [ref_Sign_eq, Option.bind_some]
  cases h : signB g with
  | false => rw [if_neg (by decide)]; rfl
  | true => rw [if_pos rfl, ref_Right_eq, Option.bind_some]; rfl
end Go.Proofs.YtngdggmlfoogcaaGreatDoor.Pr
end
section
namespace Go.Proofs.YtngdggmlfoogcaaGreatDoor.Pr
set_option linter.unusedVariables false
set_option linter.unusedSimpArgs false
open Go.RowKit Go.Proofs.YtngdggmlfoogcaaGreatDoorW.PrintWords Go.Proofs.YtngdggmlfoogcaaGreatDoorW.PrintMore
theorem strOf_eq (xs : List Int) : strOfNums xs = bl (xs.map fun n => UInt8.ofNat n.toNat) := rfl
def aloneL (s : List UInt8) : List UInt8 := (stepsL (foldL s) false).map fun p => UInt8.ofNat p.2.toNat
def headK (K : Int) : UInt8 := UInt8.ofNat (48 + K).toNat
def bodyK (K n : Int) (s : List UInt8) (b : Bool) (c : Int) : List UInt8 := if K = 2 then aloneL s else (showP K n s b c).1
def keyedB (g : List UInt8) (K n : Int) (s : List UInt8) (b : Bool) (c : Int) : Bool := signB g && (rightB K n s b c && (g == [61] && (K != 2 || !wildB (stepsL (foldL s) false))))
def keyP (g : List UInt8) (K n : Int) (s : List UInt8) (b : Bool) (c : Int) : List UInt8 := if keyedB g K n s b c = true then headK K :: bodyK K n s b c else []
theorem crit_Key_l0 (P : List (Int × Int)) (hP : P.length ≤ 1000) : ∀ (r pre : List (Int × Int)) (k : Nat) (acc : List Int), r.length + 1 ≤ k → P = pre ++ r → acc.length ≤ pre.length →
    crit_Key.l0 k acc (P.map toC) ((P.map toC).length : Int) (pre.length : Int) = some (if wildB r = true then ((⟨#[]⟩ : ByteArray), false) else ((⟨#[50]⟩ : ByteArray) ++ strOfNums (acc ++ r.map fun p => p.2), true)) := by
  intro r
  induction r with
  | nil =>
    intro pre k acc hk h ha
    obtain ⟨k, rfl⟩ : ∃ m, k = m + 1 := ⟨k - 1, by omega⟩
    have hlen : P.length = pre.length := by rw [h]; simp
    simp only [crit_Key.l0, List.length_map]
    rw [if_neg (by omega), if_pos (by rw [strOf_eq, bl_size, List.length_map]; omega), if_neg (by unfold wildB; simp)]
    simp
  | cons x r ih =>
    intro pre k acc hk h ha
    simp only [List.length_cons] at hk
    obtain ⟨k, rfl⟩ : ∃ m, k = m + 1 := ⟨k - 1, by omega⟩
    have hlen : P.length = pre.length + r.length + 1 := by rw [h]; simp; omega
    have hrd : rd_T66 (P.map toC) (pre.length : Int) = toC x := by
      rw [h, List.map_append, List.map_cons]
      have := rdC (pre.map toC) (r.map toC) (toC x)
      rw [List.length_map] at this
      exact this
    have := ih (pre ++ [x]) k (acc ++ [x.2]) (by omega) (by rw [h]; simp) (by simp; omega)
    rw [List.length_map, show (((pre ++ [x]).length : Nat) : Int) = (pre.length : Int) + 1 by simp] at this
    simp only [crit_Key.l0, List.length_map, hrd]
    rw [if_pos (by omega), if_pos (by omega), if_pos (by omega), wN (by omega) (by omega), if_pos (show acc.length < 140737488355328 by omega)]
    have e0 : (toC x).f0 = (x.1 == 63) := rfl
    have e1 : (toC x).f1 = (x.1 == 42) := rfl
    have e2 : (toC x).f2 = x.2 := rfl
    rw [e0, e1, e2, this]
    have hw : wildB (x :: r) = (x.1 == 63 || x.1 == 42 || wildB r) := rfl
    rw [hw]
    cases h63 : x.1 == 63
    · cases h42 : x.1 == 42
      · simp
      · simp
    · simp
theorem crit_Key_eq (k : Nat) (hk : 1000 ≤ k) (g : List UInt8) (K n : Int) (s : List UInt8) (b : Bool) (c : Int) : crit_Key.f k (bl g) K n (bl s) b c = some (bl (keyP g K n s b c), keyedB g K n s b c) := by
  obtain ⟨k, rfl⟩ : ∃ m, k = m + 1 := ⟨k - 1, by omega⟩
  have hno : keyedB g K n s b c = false → crit_Key.j0 (k + 1) true (bl g) K n (bl s) b c = some (bl (keyP g K n s b c), keyedB g K n s b c) := by
    intro h
    simp only [crit_Key.j0]
    rw [if_pos (by first | trivial | rfl)]
    unfold keyP
    rw [h]
    rfl
  unfold crit_Key.f
  rw [crit_Check_eq, Option.bind_some]
  by_cases h1 : signB g = true ∧ rightB K n s b c = true
  rotate_left
  · rw [if_neg h1, if_neg (by decide)]
    refine hno (Bool.eq_false_iff.2 fun h => h1 ?_)
    unfold keyedB at h
    simp only [Bool.and_eq_true] at h
    exact ⟨h.1, h.2.1⟩
  rw [if_pos h1, if_pos rfl, bl_toList]
  by_cases h2 : g = [61]
  rotate_left
  · rw [show (g != [61]) = true by simp [h2]]
    refine hno (Bool.eq_false_iff.2 fun h => h2 ?_)
    unfold keyedB at h
    simp only [Bool.and_eq_true, beq_iff_eq] at h
    exact h.2.2.1
  rw [show (g != [61]) = false by simp [h2]]
  have hl := right_len h1.2
  simp only [crit_Key.j0]
  rw [if_neg (by first | exact Bool.false_ne_true | exact not_false), value_Show_eq, Option.bind_some]
  have hkd : keyedB g K n s b c = (K != 2 || !wildB (stepsL (foldL s) false)) := by unfold keyedB; rw [h1.1, h1.2, h2]; rfl
  unfold keyP
  rw [hkd]
  by_cases hK : K = 2
  · have hsh : (showP K n s b c).1 = s := by
      unfold showP wordsP
      rw [if_pos h1.2, if_neg (by rw [hK]; decide), if_pos h1.2, if_neg (by rw [hK]; decide), if_neg (by rw [hK]; decide), if_neg (by rw [hK]; decide)]
    have hst := stepsL_length (foldL s) false
    rw [foldL_length] at hst
    rw [if_pos hK, hsh, crit_steps_eq k s (by omega) (by omega), Option.bind_some]
    refine (crit_Key_l0 (stepsL (foldL s) false) (by omega) _ [] k [] (by omega) rfl (Nat.le_refl _)).trans ?_
    rw [hK, show ((2 : Int) != 2) = false from rfl, Bool.false_or, List.nil_append]
    cases hw : wildB (stepsL (foldL s) false)
    · rw [if_neg (by decide), if_pos (by rfl), strOf_eq, List.map_map]
      unfold bodyK
      rw [if_pos rfl]
      show some (bl [50] ++ bl _, true) = some (bl (50 :: _), true)
      rw [bl_append]
      rfl
    · rw [if_pos rfl]; rfl
  · rw [if_neg hK, show (K != 2) = true by simp [hK], Bool.true_or, if_pos rfl, Option.bind_some]
    have hK4 : 0 ≤ K ∧ K ≤ 4 := by
      rcases rightB_cases h1.2 with ⟨rfl, _⟩ | ⟨rfl, _⟩ | ⟨rfl, _⟩ | ⟨rfl, _⟩ | ⟨rfl, _⟩ <;> decide
    have hlen : (showP K n s b c).1.length ≤ 255 := by
      have hr := read_show K n s b c h1.2 hK
      unfold showP
      rw [if_pos h1.2]
      split
      · rcases rightB_cases h1.2 with ⟨rfl, _⟩ | ⟨rfl, _⟩ | ⟨rfl, _⟩ | ⟨rfl, _⟩ | ⟨_, h4, h7, _⟩
        all_goals first | contradiction | skip
        have hc : c = 1 ∨ c = 2 ∨ c = 3 ∨ c = 4 ∨ c = 5 ∨ c = 6 ∨ c = 7 := by omega
        rcases hc with rfl | rfl | rfl | rfl | rfl | rfl | rfl <;> decide
      · unfold wordsP
        rw [if_pos h1.2]
        split
        · exact Nat.zero_le _
        · split
          · rename_i hK1
            have hf : fitB n = true := by
              rcases rightB_cases h1.2 with ⟨h, _⟩ | ⟨_, hf, _⟩ | ⟨h, _⟩ | ⟨h, _⟩ | ⟨h, _⟩
              all_goals first | exact hf | (rw [hK1] at h; exact absurd h (by decide))
            exact Nat.le_trans (printL_len n hf) (by decide)
          · split
            · split <;> decide
            · exact hl
    have hsz : (strOfNums [(48 + K % 256) % 256]).size = 1 := by rw [strOf_eq, bl_size]; rfl
    rw [if_pos (by rw [hsz, bl_size]; omega)]
    unfold bodyK
    rw [if_neg hK, strOf_eq, bl_append]
    have e : (48 + K % 256) % 256 = 48 + K := by omega
    rw [e]
    rfl
theorem ref_Keyed_eq (k : Nat) (hk : 1000 ≤ k) (g : List UInt8) (K n : Int) (s : List UInt8) (b : Bool) (c : Int) : foolscapref13_Keyed.f k (bl g) K n (bl s) b c = some (keyedB g K n s b c) := by
  unfold foolscapref13_Keyed.f keyedB
  rw [ref_Crit_Right_eq, Option.bind_some, bl_toList]
  by_cases h1 : signB g = true ∧ rightB K n s b c = true
  · rw [h1.1, h1.2, if_pos (show (true && true) = true from rfl)]
    by_cases h2 : g = [61]
    · rw [if_pos h2, h2]
      by_cases h3 : K = 2
      · rw [if_pos h3, ref_Wild_eq k s (by have := right_len h1.2; omega) (by have := right_len h1.2; omega), h3]; rfl
      · rw [if_neg h3, show (K != 2) = true by simp [h3]]; rfl
    · rw [if_neg h2, show (g == [61]) = false by simp [h2]]; rfl
  · rw [if_neg (by rw [Bool.and_eq_true]; exact h1)]
    congr 1
    symm
    rw [Bool.eq_false_iff]
    intro h
    simp only [Bool.and_eq_true] at h
    exact h1 ⟨h.1, h.2.1⟩
theorem ref_alone_l0 (P : List (Int × Int)) (hP : P.length ≤ 1000) : ∀ (r pre : List (Int × Int)) (k : Nat) (acc : List Int), r.length + 1 ≤ k → P = pre ++ r → acc.length ≤ pre.length →
    foolscapref13_alone.l0 k (P.map toR) acc (pre.length : Int) = some (strOfNums (acc ++ r.map fun p => p.2)) := by
  intro r
  induction r with
  | nil =>
    intro pre k acc hk h ha
    obtain ⟨k, rfl⟩ : ∃ m, k = m + 1 := ⟨k - 1, by omega⟩
    have hlen : P.length = pre.length := by rw [h]; simp
    simp only [foolscapref13_alone.l0, List.length_map]
    rw [if_neg (by omega)]
    simp
  | cons x r ih =>
    intro pre k acc hk h ha
    simp only [List.length_cons] at hk
    obtain ⟨k, rfl⟩ : ∃ m, k = m + 1 := ⟨k - 1, by omega⟩
    have hlen : P.length = pre.length + r.length + 1 := by rw [h]; simp; omega
    have hrd : rd_T92 (P.map toR) (pre.length : Int) = toR x := by
      rw [h, List.map_append, List.map_cons]
      simp [rd_T92, List.getD_eq_getElem?_getD]
    have := ih (pre ++ [x]) k (acc ++ [x.2]) (by omega) (by rw [h]; simp) (by simp; omega)
    rw [show (((pre ++ [x]).length : Nat) : Int) = (pre.length : Int) + 1 by simp] at this
    simp only [foolscapref13_alone.l0, List.length_map, hrd]
    rw [if_pos (by omega), if_pos (by omega), if_pos (by omega), wN (by omega) (by omega)]
    refine this.trans ?_
    simp
theorem ref_alone_eq (k : Nat) (hk : 1000 ≤ k) (s : List UInt8) (hs : s.length ≤ 255) : foolscapref13_alone.f k (bl s) = some (bl (aloneL s)) := by
  unfold foolscapref13_alone.f
  have hst := stepsL_length (foldL s) false
  rw [foldL_length] at hst
  rw [ref_Fold_eq s (by omega), Option.bind_some, ref_steps_eq k (foldL s) (by rw [foldL_length]; omega) (by rw [foldL_length]; omega), Option.bind_some]
  refine (ref_alone_l0 (stepsL (foldL s) false) (by omega) _ [] k [] (by omega) rfl (Nat.le_refl _)).trans ?_
  rw [strOf_eq, List.nil_append, List.map_map]
  rfl
def sameB (K n : Int) (s : List UInt8) (b : Bool) (c : Int) (K' n' : Int) (s' : List UInt8) (b' : Bool) (c' : Int) : Bool :=
  if K = K' then (if K = 2 then aloneL s == aloneL s' else K == K' && (n == n' && (s == s' && (b == b' && c == c')))) else false
theorem ref_SameKey_eq (k : Nat) (hk : 1000 ≤ k) (g : List UInt8) (K n : Int) (s : List UInt8) (b : Bool) (c : Int) (g' : List UInt8) (K' n' : Int) (s' : List UInt8) (b' : Bool) (c' : Int) (hs : s.length ≤ 255) (hs' : s'.length ≤ 255) :
    foolscapref13_SameKey.f k (bl g) K n (bl s) b c (bl g') K' n' (bl s') b' c' = some (sameB K n s b c K' n' s' b' c') := by
  unfold foolscapref13_SameKey.f sameB
  rw [ref_alone_eq k hk s hs, ref_alone_eq k hk s' hs']
  simp only [Option.bind_some, bl_toList]
  by_cases h : K = K'
  · rw [if_pos h, if_pos h]
    by_cases h2 : K = 2
    · rw [if_pos h2, if_pos h2]
    · rw [if_neg h2, if_neg h2]
  · rw [if_neg h, if_neg h]
theorem headK_inj {K K' : Int} (h : 0 ≤ K ∧ K ≤ 4) (h' : 0 ≤ K' ∧ K' ≤ 4) (e : headK K = headK K') : K = K' := by
  unfold headK at e
  have e2 := congrArg UInt8.toNat e
  rw [UInt8.toNat_ofNat', UInt8.toNat_ofNat'] at e2
  omega
theorem key_same {K n : Int} {s : List UInt8} {b : Bool} {c : Int} {K' n' : Int} {s' : List UInt8} {b' : Bool} {c' : Int} (h : rightB K n s b c = true) (h' : rightB K' n' s' b' c' = true) :
    ((headK K :: bodyK K n s b c) == (headK K' :: bodyK K' n' s' b' c')) = sameB K n s b c K' n' s' b' c' := by
  have hK4 : ∀ {K n : Int} {s : List UInt8} {b : Bool} {c : Int}, rightB K n s b c = true → 0 ≤ K ∧ K ≤ 4 := by
    intro K n s b c h
    rcases rightB_cases h with ⟨rfl, _⟩ | ⟨rfl, _⟩ | ⟨rfl, _⟩ | ⟨rfl, _⟩ | ⟨rfl, _⟩ <;> decide
  unfold sameB
  by_cases hK : K = K'
  · subst hK
    rw [if_pos rfl]
    unfold bodyK
    by_cases h2 : K = 2
    · rw [if_pos h2, if_pos h2, if_pos h2, Bool.eq_iff_iff, beq_iff_eq, beq_iff_eq, List.cons.injEq]
      exact ⟨fun hh => hh.2, fun hh => ⟨rfl, hh⟩⟩
    · rw [if_neg h2, if_neg h2, if_neg h2, Bool.eq_iff_iff, beq_iff_eq, List.cons.injEq]
      simp only [Bool.and_eq_true, beq_iff_eq]
      constructor
      · rintro ⟨_, hh⟩
        have r1 := read_show K n s b c h h2
        have r2 := read_show K n' s' b' c' h' h2
        rw [hh, r2] at r1
        simp only [Prod.mk.injEq] at r1
        exact ⟨trivial, r1.2.1.symm, r1.2.2.1.symm, r1.2.2.2.1.symm, r1.2.2.2.2.1.symm⟩
      · rintro ⟨_, rfl, rfl, rfl, rfl⟩
        exact ⟨trivial, rfl⟩
  · rw [if_neg hK, Bool.eq_false_iff]
    intro hh
    rw [beq_iff_eq, List.cons.injEq] at hh
    exact hK (headK_inj (hK4 h) (hK4 h') hh.1)
end Go.Proofs.YtngdggmlfoogcaaGreatDoor.Pr
end
section
namespace Go.Proofs.YtngdggmlfoogcaaGreatDoor.Pr
set_option linter.unusedVariables false
set_option linter.unusedSimpArgs false
open Go.RowKit Go.Proofs.YtngdggmlfoogcaaGreatDoorW.PrintWords Go.Proofs.YtngdggmlfoogcaaGreatDoorW.PrintMore
theorem crit_lives10 : foolscaplaw13_lives.f 8100010 = some true := by decide +kernel
theorem CritKeys_pure (a0_0 : ByteArray) (a0_1 : Int) (a0_2 : Int) (a0_3 : ByteArray) (a0_4 : Bool) (a0_5 : Int) (a1_0 : ByteArray) (a1_1 : Int) (a1_2 : Int) (a1_3 : ByteArray) (a1_4 : Bool) (a1_5 : Int) : foolscaplaw13_CritKeys.f 8100011 a0_0 a0_1 a0_2 a0_3 a0_4 a0_5 a1_0 a1_1 a1_2 a1_3 a1_4 a1_5 = some true := by
  rw [← bl_of a0_0, ← bl_of a0_3, ← bl_of a1_0, ← bl_of a1_3]
  generalize a0_0.data.toList = g
  generalize a0_3.data.toList = s
  generalize a1_0.data.toList = g'
  generalize a1_3.data.toList = s'
  unfold foolscaplaw13_CritKeys.f
  rw [crit_Key_eq 8100011 (by decide), Option.bind_some, crit_Key_eq 8100011 (by decide), Option.bind_some, ref_Keyed_eq 8100011 (by decide), Option.bind_some, ref_Keyed_eq 8100011 (by decide), Option.bind_some]
  simp only [bne_self_eq_false, bl_toList, Bool.false_eq_true, if_false]
  have hj : foolscaplaw13_CritKeys.j0 8100011 (bl (keyP g a0_1 a0_2 s a0_4 a0_5)) (keyedB g a0_1 a0_2 s a0_4 a0_5) (bl (keyP g' a1_1 a1_2 s' a1_4 a1_5)) (keyedB g' a1_1 a1_2 s' a1_4 a1_5) false (bl g) a0_1 a0_2 (bl s) a0_4 a0_5 (bl g') a1_1 a1_2 (bl s') a1_4 a1_5 = some true := by
    rw [show (8100011 : Nat) = 8100010 + 1 from rfl]
    simp only [foolscaplaw13_CritKeys.j0]
    rw [if_neg (by first | exact Bool.false_ne_true | exact not_false), crit_lives10]
    cases h1 : keyedB g a0_1 a0_2 s a0_4 a0_5 with
    | false => rfl
    | true =>
      cases h2 : keyedB g' a1_1 a1_2 s' a1_4 a1_5 with
      | false => rfl
      | true =>
        have r1 : rightB a0_1 a0_2 s a0_4 a0_5 = true := by
          unfold keyedB at h1
          simp only [Bool.and_eq_true] at h1
          exact h1.2.1
        have r2 : rightB a1_1 a1_2 s' a1_4 a1_5 = true := by
          unfold keyedB at h2
          simp only [Bool.and_eq_true] at h2
          exact h2.2.1
        rw [if_pos rfl, if_pos rfl, ref_SameKey_eq 8100010 (by decide) _ _ _ _ _ _ _ _ _ _ _ _ (right_len r1) (right_len r2), Option.bind_some, bl_toList, bl_toList]
        unfold keyP
        rw [if_pos h1, if_pos h2, key_same r1 r2, if_pos (by rw [beq_self_eq_true])]
        rfl
  cases h1 : keyedB g a0_1 a0_2 s a0_4 a0_5 with
  | true => rw [h1] at hj; exact hj
  | false =>
    have : keyP g a0_1 a0_2 s a0_4 a0_5 = [] := by unfold keyP; rw [h1]; rfl
    rw [this, h1] at hj
    rw [this]
    exact hj
theorem CritKeys_walk (a0_0 : ByteArray) (a0_1 : Int) (a0_2 : Int) (a0_3 : ByteArray) (a0_4 : Bool) (a0_5 : Int) (a1_0 : ByteArray) (a1_1 : Int) (a1_2 : Int) (a1_3 : ByteArray) (a1_4 : Bool) (a1_5 : Int) (w : World) (z0_0 : a0_0.size ≤ 140737488351232) (y0_1 : (Lit.int .i64 a0_1).wf = true) (y0_2 : (Lit.int .i64 a0_2).wf = true) (z0_3 : a0_3.size ≤ 140737488351232) (y0_5 : (Lit.int .i64 a0_5).wf = true) (z1_0 : a1_0.size ≤ 140737488351232) (y1_1 : (Lit.int .i64 a1_1).wf = true) (y1_2 : (Lit.int .i64 a1_2).wf = true) (z1_3 : a1_3.size ≤ 140737488351232) (y1_5 : (Lit.int .i64 a1_5).wf = true) (hL : Aside0 (LaidW w)) :
    Calls Tryz.prog 6 #[.agg #[.string a0_0, .int .i64 a0_1, .int .i64 a0_2, .string a0_3, .bool a0_4, .int .i64 a0_5], .agg #[.string a1_0, .int .i64 a1_1, .int .i64 a1_2, .string a1_3, .bool a1_4, .int .i64 a1_5]] w fun e w' => e = .returned (.bool true) ∧ Below w.heap.size w w' :=
  foolscaplaw13_CritKeys.calls 8100011 a0_0 a0_1 a0_2 a0_3 a0_4 a0_5 a1_0 a1_1 a1_2 a1_3 a1_4 a1_5 true w (CritKeys_pure a0_0 a0_1 a0_2 a0_3 a0_4 a0_5 a1_0 a1_1 a1_2 a1_3 a1_4 a1_5) hL
end Go.Proofs.YtngdggmlfoogcaaGreatDoor.Pr
end
