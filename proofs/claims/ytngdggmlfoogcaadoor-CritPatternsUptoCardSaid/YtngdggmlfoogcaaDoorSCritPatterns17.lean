/-
  What the law CritPatterns leans on, out of the texts that were printed and written for this seat: only what its proof mentions (gathered by a program of the author's).
-/
import Derived.Test.YtngdggmlfoogcaaDoorSCritPatterns4
import Derived.Test.YtngdggmlfoogcaaDoorSCritPatterns13
import Derived.Test.YtngdggmlfoogcaaDoorSCritPatterns7
import Derived.Test.YtngdggmlfoogcaaDoorSCritPatterns5
import Derived.Test.YtngdggmlfoogcaaDoorSCritPatterns12
import Derived.Test.YtngdggmlfoogcaaDoorSCritPatterns10
import Derived.Test.YtngdggmlfoogcaaDoorSCritPatterns15
import Derived.Test.YtngdggmlfoogcaaDoorSCritPatterns6
import Derived.Test.YtngdggmlfoogcaaDoorSCritPatterns11
import Derived.Test.YtngdggmlfoogcaaDoorSCritPatterns16
import Derived.Laws.BytesArg
import Derived.Lib.IndexLaws
import Derived.Lib.ItoaNum
import Derived.Lib.ParseIntB
import Derived.Lib.Repeat
import Derived.Lib.SlTrimSet
import Derived.Lib.Strings
import Derived.WalkKit
import Derived.Lib.Bytealg
section
namespace Go.Proofs.YtngdggmlfoogcaaDoor.Pr
set_option linter.unusedVariables false
def bl (l : List UInt8) : ByteArray := ⟨l.toArray⟩
theorem bl_size (a : List UInt8) : (bl a).size = a.length := by simp [bl, ByteArray.size]
theorem bl_data (a : List UInt8) : (bl a).data.toList = a := by simp [bl]
theorem bl_of (s : ByteArray) : bl s.data.toList = s := by apply ByteArray.ext; simp [bl]
end Go.Proofs.YtngdggmlfoogcaaDoor.Pr
namespace Go.Proofs.YtngdggmlfoogcaaDoor.Pr
set_option linter.unusedVariables false
open Go.RowKit Go.Proofs.YtngdggmlfoogcaaDoorW.PrintWords Go.Proofs.YtngdggmlfoogcaaDoorW.PrintMore
end Go.Proofs.YtngdggmlfoogcaaDoor.Pr
namespace Go.Proofs.YtngdggmlfoogcaaDoor.Pr
set_option linter.unusedVariables false
set_option linter.unusedSimpArgs false
end Go.Proofs.YtngdggmlfoogcaaDoor.Pr
namespace Go.Proofs.YtngdggmlfoogcaaDoor.Pr
set_option linter.unusedVariables false
set_option linter.unusedSimpArgs false
end Go.Proofs.YtngdggmlfoogcaaDoor.Pr
namespace Go.Proofs.YtngdggmlfoogcaaDoor.Pr
set_option linter.unusedVariables false
set_option linter.unusedSimpArgs false
open Go.RowKit Go.Proofs.YtngdggmlfoogcaaDoorW.PrintWords Go.Proofs.YtngdggmlfoogcaaDoorW.PrintMore
theorem wN {a : Int} (h0 : -9223372036854775808 ≤ a) (h1 : a ≤ 9223372036854775807) : wrap64 a = a := by unfold wrap64; omega
end Go.Proofs.YtngdggmlfoogcaaDoor.Pr
namespace Go.Proofs.YtngdggmlfoogcaaDoor.Pr
set_option linter.unusedVariables false
set_option linter.unusedSimpArgs false
open Go.RowKit Go.Proofs.YtngdggmlfoogcaaDoorW.PrintWords Go.Proofs.YtngdggmlfoogcaaDoorW.PrintMore
end Go.Proofs.YtngdggmlfoogcaaDoor.Pr
namespace Go.Proofs.YtngdggmlfoogcaaDoor.Pr
set_option linter.unusedVariables false
set_option linter.unusedSimpArgs false
open Go.RowKit Go.Proofs.YtngdggmlfoogcaaDoorW.PrintWords Go.Proofs.YtngdggmlfoogcaaDoorW.PrintMore
end Go.Proofs.YtngdggmlfoogcaaDoor.Pr
end
section
namespace Go.Proofs.YtngdggmlfoogcaaDoor.Pr
set_option linter.unusedVariables false
set_option linter.unusedSimpArgs false
open Go.RowKit Go.Proofs.YtngdggmlfoogcaaDoorW.PrintWords Go.Proofs.YtngdggmlfoogcaaDoorW.PrintMore
def foldL (l : List UInt8) : List UInt8 := l.map up
theorem foldL_length (l : List UInt8) : (foldL l).length = l.length := by simp [foldL]
theorem value_Fold_eq (l : List UInt8) (h : l.length ≤ 140737488351232) : value_Fold.f (bl l) = some (bl (foldL l)) := by
  unfold value_Fold.f
  rw [if_pos (by rw [bl_size]; exact h)]
  unfold foldB foldL
  rw [bl_data]; rfl
theorem ref_Fold_eq (l : List UInt8) (h : l.length ≤ 140737488351232) : foolscapref04_Fold.f (bl l) = some (bl (foldL l)) := value_Fold_eq l h
end Go.Proofs.YtngdggmlfoogcaaDoor.Pr
namespace Go.Proofs.YtngdggmlfoogcaaDoor.Pr
set_option linter.unusedVariables false
set_option linter.unusedSimpArgs false
open Go.RowKit Go.Proofs.YtngdggmlfoogcaaDoorW.PrintWords Go.Proofs.YtngdggmlfoogcaaDoorW.PrintMore
end Go.Proofs.YtngdggmlfoogcaaDoor.Pr
namespace Go.Proofs.YtngdggmlfoogcaaDoor.Pr
set_option linter.unusedVariables false
set_option linter.unusedSimpArgs false
open Go.RowKit Go.Proofs.YtngdggmlfoogcaaDoorW.PrintWords Go.Proofs.YtngdggmlfoogcaaDoorW.PrintMore
def cmpZ (a b : Int) : Int := if a < b then -1 else if b < a then 1 else 0
theorem bt_at (p r : List UInt8) (c : UInt8) : bt (bl (p ++ c :: r)) (p.length : Int) = (c.toNat : Int) := by
  have hs : (⟨(p ++ c :: r).toArray⟩ : ByteArray).size = p.length + r.length + 1 := by simp [ByteArray.size]; omega
  unfold bt bl
  simp only [Int.toNat_natCast]
  rw [dif_pos (by rw [hs]; omega)]
  congr 2
  show (p ++ c :: r).toArray[p.length] = c
  simp
theorem z21 : cmpZ 2 1 = 1 := by decide
end Go.Proofs.YtngdggmlfoogcaaDoor.Pr
namespace Go.Proofs.YtngdggmlfoogcaaDoor.Pr
set_option linter.unusedVariables false
set_option linter.unusedSimpArgs false
open Go.RowKit Go.Proofs.YtngdggmlfoogcaaDoorW.PrintWords Go.Proofs.YtngdggmlfoogcaaDoorW.PrintMore
end Go.Proofs.YtngdggmlfoogcaaDoor.Pr
end
section
namespace Go.Proofs.YtngdggmlfoogcaaDoor.Pr
set_option linter.unusedVariables false
set_option linter.unusedSimpArgs false
open Go.RowKit Go.Proofs.YtngdggmlfoogcaaDoorW.PrintWords Go.Proofs.YtngdggmlfoogcaaDoorW.PrintMore
section
variable {α β : Type} (row : α → Bool) (fit : α → β → Bool)
def gM : List α → List β → Prop
  | [], s => s = []
  | p :: ps, s => if row p = true then ∃ k, gM ps (s.drop k) else ∃ c s', s = c :: s' ∧ fit p c = true ∧ gM ps s'
variable {row fit}
theorem gM_row {p : α} {ps : List α} {s : List β} (h : row p = true) : gM row fit (p :: ps) s ↔ ∃ k, gM row fit ps (s.drop k) := by
  show (if row p = true then _ else _) ↔ _
  rw [if_pos h]
theorem gM_one {p : α} {ps : List α} {s : List β} (h : row p = false) : gM row fit (p :: ps) s ↔ ∃ c s', s = c :: s' ∧ fit p c = true ∧ gM row fit ps s' := by
  show (if row p = true then _ else _) ↔ _
  rw [if_neg (by rw [h]; decide)]
inductive GFront (row : α → Bool) (fit : α → β → Bool) : List α → List β → Prop
  | nil : GFront row fit [] []
  | snoc {P : List α} {S : List β} {p : α} {c : β} : GFront row fit P S → row p = false → fit p c = true → GFront row fit (P ++ [p]) (S ++ [c])
theorem GFront.length {P : List α} {S : List β} (h : GFront row fit P S) : P.length = S.length := by
  induction h with
  | nil => rfl
  | snoc _ _ _ ih => simp [ih]
theorem GFront.iff {P Q : List α} {S T : List β} (h : GFront row fit P S) : gM row fit (P ++ Q) (S ++ T) ↔ gM row fit Q T := by
  induction h generalizing Q T with
  | nil => exact Iff.rfl
  | snoc h hp hf ih =>
    rw [List.append_assoc, List.append_assoc, ih]
    show gM row fit (_ :: Q) (_ :: T) ↔ _
    rw [gM_one hp]
    constructor
    · rintro ⟨c, s', e, _, hm⟩
      obtain ⟨rfl, rfl⟩ := List.cons.inj e
      exact hm
    · exact fun hm => ⟨_, _, rfl, hf, hm⟩
theorem GFront.drop {P Q : List α} {S T : List β} (h : GFront row fit P S) (hm : gM row fit (P ++ Q) T) : gM row fit Q (T.drop P.length) := by
  induction h generalizing Q T with
  | nil => exact hm
  | snoc h hp hf ih =>
    rw [List.append_assoc] at hm
    have := ih hm
    obtain ⟨c, s', e, _, hm2⟩ := (gM_one hp).1 this
    rw [List.length_append, ← List.drop_drop, e]
    exact hm2
theorem row_again {A P : List α} {B S : List β} {p : α} (h : GFront row fit A B) (hp : row p = true) : (∃ k, gM row fit (A ++ p :: P) ((B ++ S).drop k)) ↔ ∃ k, gM row fit P (S.drop k) := by
  constructor
  · rintro ⟨k, hk⟩
    obtain ⟨j, hj⟩ := (gM_row hp).1 (h.drop hk)
    refine ⟨k + j, ?_⟩
    rw [List.drop_drop, List.drop_drop, h.length] at hj
    have e : List.drop (k + (B.length + j)) (B ++ S) = List.drop (k + j) S := by
      rw [show k + (B.length + j) = B.length + (k + j) by omega, ← List.drop_drop, List.drop_left]
    rw [← e]
    simpa [Nat.add_assoc] using hj
  · rintro ⟨k, hk⟩
    exact ⟨0, h.iff.2 ((gM_row hp).2 ⟨k, hk⟩)⟩
theorem one_more {Q : List α} {T : List β} (h : ¬ gM row fit Q T) : (∃ k, gM row fit Q (T.drop k)) ↔ ∃ k, gM row fit Q (T.drop (k + 1)) := by
  constructor
  · rintro ⟨k, hk⟩
    cases k with
    | zero => exact absurd hk h
    | succ k => exact ⟨k, hk⟩
  · rintro ⟨k, hk⟩; exact ⟨_, hk⟩
theorem no_more {Q : List α} {T : List β} (h : ¬ gM row fit Q T) (hT : T = []) : ¬ ∃ k, gM row fit Q (T.drop k) := by
  subst hT
  rintro ⟨k, hk⟩
  rw [List.drop_nil] at hk
  exact h hk
theorem no_fit {P : List α} {S : List β} {p : α} (hp : row p = false) (h : ∀ c S', S = c :: S' → fit p c = false) : ¬ gM row fit (p :: P) S := by
  intro hm
  obtain ⟨c, s', rfl, hf, _⟩ := (gM_one hp).1 hm
  rw [h c s' rfl] at hf
  cases hf
end
def stepsL : List UInt8 → Bool → List (Int × Int)
  | [], false => []
  | [], true => [(0, 126)]
  | c :: r, true => (0, (c.toNat : Int)) :: stepsL r false
  | c :: r, false => if c = 126 then stepsL r true else if c = 63 ∨ c = 42 then ((c.toNat : Int), 0) :: stepsL r false else (0, (c.toNat : Int)) :: stepsL r false
abbrev CS := S41
def toC (p : Int × Int) : CS := ⟨p.1 == 63, p.1 == 42, p.2⟩
def rowC (p : CS) : Bool := p.f1
def fitC (p : CS) (c : UInt8) : Bool := p.f0 || (!p.f1 && p.f2 == (c.toNat : Int))
theorem stepsL_length : ∀ (l : List UInt8) (b : Bool), (stepsL l b).length ≤ l.length + 1
  | [], false => by simp [stepsL]
  | [], true => by simp [stepsL]
  | c :: r, true => by have := stepsL_length r false; simp only [stepsL, List.length_cons]; omega
  | c :: r, false => by
    have h1 := stepsL_length r false
    have h2 := stepsL_length r true
    simp only [stepsL]
    split
    · simp only [List.length_cons]; omega
    · split <;> (simp only [List.length_cons]; omega)
theorem u8_is (c : UInt8) (n : UInt8) : ((c.toNat : Int) = (n.toNat : Int)) = (c = n) := by
  refine propext ⟨fun h => UInt8.toNat_inj.mp (by omega), fun h => by rw [h]⟩
theorem rd_mid (p r : List Int) (x : Int) : rd (p ++ x :: r) (p.length : Int) = x := by simp [rd]
theorem numsOf_bl (l : List UInt8) : numsOf (bl l) = l.map fun c => (c.toNat : Int) := by unfold numsOf; rw [bl_data]
theorem crit_stepsB_l0 (l : List UInt8) (hl : l.length ≤ 40000000000000) : ∀ (r pre : List UInt8) (k : Nat) (pl : Bool) (acc : List CS), 2 * r.length + 2 ≤ k → l = pre ++ r → acc.length ≤ pre.length →
    crit_stepsB.l0 k acc pl (l.map fun c => (c.toNat : Int)) (l.length : Int) (pre.length : Int) = some (acc ++ (stepsL r pl).map toC) := by
  intro r
  induction r with
  | nil =>
    intro pre k pl acc hk h ha
    obtain ⟨k, rfl⟩ : ∃ m, k = m + 1 := ⟨k - 1, by omega⟩
    have hlen : l.length = pre.length := by rw [h]; simp
    simp only [crit_stepsB.l0]
    rw [if_neg (by omega)]
    cases pl with
    | true => rw [if_pos (by first | trivial | rfl), if_pos (by omega)]; rfl
    | false => rw [if_neg (by first | exact Bool.false_ne_true | exact not_false)]; simp [stepsL]
  | cons c r ih =>
    intro pre k pl acc hk h ha
    simp only [List.length_cons] at hk
    obtain ⟨k, rfl⟩ : ∃ m, k = m + 2 := ⟨k - 2, by omega⟩
    have hlen : l.length = pre.length + r.length + 1 := by rw [h]; simp; omega
    have hrd : rd (l.map fun c => (c.toNat : Int)) (pre.length : Int) = (c.toNat : Int) := by
      rw [h, List.map_append, List.map_cons]
      have := rd_mid (pre.map fun c => (c.toNat : Int)) (r.map fun c => (c.toNat : Int)) (c.toNat : Int)
      rw [List.length_map] at this
      exact this
    have hw : wrap64 ((pre.length : Int) + 1) = ((pre ++ [c]).length : Int) := by rw [wN (by omega) (by omega)]; simp
    have hn : l = (pre ++ [c]) ++ r := by rw [h]; simp
    have hacc : ∀ x : CS, (acc ++ [x]).length ≤ (pre ++ [c]).length := fun x => by simp; omega
    have hacc' : acc.length ≤ (pre ++ [c]).length := by simp; omega
    have e126 : ((c.toNat : Int) = 126) = (c = 126) := u8_is c 126
    have e63 : ((c.toNat : Int) = 63) = (c = 63) := u8_is c 63
    have e42 : ((c.toNat : Int) = 42) = (c = 42) := u8_is c 42
    simp only [crit_stepsB.l0, hrd]
    rw [if_pos (by omega), if_pos (by omega), if_pos (by rw [List.length_map]; omega)]
    cases pl with
    | true =>
      rw [if_pos (by first | trivial | rfl)]
      simp only [crit_stepsB.j1]
      rw [if_pos (by first | trivial | rfl), if_pos (by omega), hw, ih (pre ++ [c]) k false _ (by omega) hn (hacc _)]
      simp [stepsL, toC]
    | false =>
      rw [if_neg (by first | exact Bool.false_ne_true | exact not_false)]
      by_cases c1 : c = 126
      · rw [if_pos (by rw [e126]; exact c1)]
        simp only [crit_stepsB.j1]
        rw [if_neg (by first | exact Bool.false_ne_true | exact not_false), if_pos (by rw [e126]; exact c1), hw, ih (pre ++ [c]) k true _ (by omega) hn hacc']
        simp only [stepsL]
        rw [if_pos c1]
      · have n126 : ¬ (c.toNat : Int) = 126 := by rw [e126]; exact c1
        rw [if_neg n126]
        by_cases c2 : c = 63
        · rw [if_pos (by rw [e63]; exact c2)]
          simp only [crit_stepsB.j1]
          rw [if_neg (by first | exact Bool.false_ne_true | exact not_false), if_neg n126, if_pos (by omega), hw, ih (pre ++ [c]) k false _ (by omega) hn (hacc _)]
          simp only [stepsL]
          rw [if_neg c1, if_pos (Or.inl c2)]
          subst c2
          simp [toC]
        · rw [if_neg (by rw [e63]; exact c2)]
          by_cases c3 : c = 42
          · rw [show ((c.toNat : Int) != 42) = false by rw [c3]; rfl]
            simp only [crit_stepsB.j1]
            rw [if_neg (by first | exact Bool.false_ne_true | exact not_false), if_neg n126, if_pos (by omega), hw, ih (pre ++ [c]) k false _ (by omega) hn (hacc _)]
            simp only [stepsL]
            rw [if_neg c1, if_pos (Or.inr c3)]
            subst c3
            simp [toC]
          · rw [show ((c.toNat : Int) != 42) = true by rw [bne_iff_ne]; intro h; rw [e42] at h; exact c3 h]
            simp only [crit_stepsB.j1]
            rw [if_pos (by first | trivial | rfl), if_pos (by omega), hw, ih (pre ++ [c]) k false _ (by omega) hn (hacc _)]
            simp only [stepsL]
            rw [if_neg c1, if_neg (by intro h; exact h.elim c2 c3)]
            simp [toC]
theorem crit_steps_eq (k : Nat) (l : List UInt8) (hl : l.length ≤ 40000000000000) (hk : 2 * l.length + 2 ≤ k) : crit_steps.f k (bl l) = some ((stepsL (foldL l) false).map toC) := by
  unfold crit_steps.f
  rw [value_Fold_eq l (by omega), Option.bind_some, if_pos (by rw [bl_size, foldL_length]; omega), numsOf_bl]
  unfold crit_stepsB.f
  have := crit_stepsB_l0 (foldL l) (by rw [foldL_length]; exact hl) (foldL l) [] k false [] (by rw [foldL_length]; exact hk) rfl (Nat.le_refl _)
  rw [List.length_map]
  simpa using this
theorem fits_eq (p : CS) (c : UInt8) : crit_step_fits.f p.f0 p.f1 p.f2 (c.toNat : Int) = some (fitC p c) := by
  unfold crit_step_fits.f fitC
  cases p.f0 <;> cases p.f1 <;> simp
theorem rdC (p r : List CS) (x : CS) : rd_T41 (p ++ x :: r) (p.length : Int) = x := by simp [rd_T41]
theorem bt_mid (p r : List UInt8) (c : UInt8) : bt (bl (p ++ c :: r)) (p.length : Int) = (c.toNat : Int) := bt_at p r c
theorem crit_Like_B (P : List CS) (S : List UInt8) (hP : P.length ≤ 1000) (hS : S.length ≤ 1000) (W : Nat) (hW : 2003 ≤ W) : ∀ (N k : Nat) (p1 A' P' : List CS) (s1 B' S' : List UInt8),
    (B'.length + S'.length) * W + P'.length + S'.length ≤ N → 4 * N + 4 ≤ k → P = p1 ++ (A' ++ P') → S = s1 ++ (B' ++ S') → GFront rowC fitC A' B' → p1 ≠ [] →
    ∃ b, crit_Like.l0 k (bl S) P ((p1.length + A'.length : Nat) : Int) ((s1.length + B'.length : Nat) : Int) ((p1.length : Int) - 1) (s1.length : Int) = some b ∧ (b = true ↔ ∃ f, gM rowC fitC (A' ++ P') ((B' ++ S').drop f)) := by
  intro N
  induction N with
  | zero =>
    intro k p1 A' P' s1 B' S' hN hk hP' hS' hF hp
    obtain ⟨k, rfl⟩ : ∃ m, k = m + 2 := ⟨k - 2, by omega⟩
    obtain rfl : P' = [] := List.eq_nil_of_length_eq_zero (by omega)
    obtain rfl : S' = [] := List.eq_nil_of_length_eq_zero (by omega)
    refine ⟨true, ?_, fun _ => ⟨0, hF.iff.2 rfl⟩, fun _ => rfl⟩
    have hlP : P.length = p1.length + A'.length := by rw [hP']; simp
    have hlS : S.length = s1.length + B'.length := by rw [hS']; simp
    simp only [crit_Like.l0, bl_size]
    rw [if_neg (by omega), decide_eq_false (by omega)]
    simp only [crit_Like.j1]
    rw [if_neg (by first | exact Bool.false_ne_true | exact not_false)]
  | succ N ih =>
    intro k p1 A' P' s1 B' S' hN hk hP' hS' hF hp
    obtain ⟨k, rfl⟩ : ∃ m, k = m + 4 := ⟨k - 4, by omega⟩
    have hpl : 1 ≤ p1.length := by cases p1 with
      | nil => exact absurd rfl hp
      | cons _ _ => simp
    have hlP : P.length = p1.length + A'.length + P'.length := by rw [hP']; simp; omega
    have hlS : S.length = s1.length + B'.length + S'.length := by rw [hS']; simp; omega
    have hAB := hF.length
    have hgo : ∀ b, (b = true ↔ (P' = [] ∧ S' = [])) → True := fun _ _ => trivial
    -- no way on: the row before takes one more, or nothing is left
    have hback : ¬ gM rowC fitC P' S' → ∃ b, (if ((p1.length : Int) - 1) ≥ 0 then (if (s1.length : Int) < ((bl S).size : Int) then (crit_Like.l0 k (bl S) P (wrap64 (((p1.length : Int) - 1) + 1)) (wrap64 ((s1.length : Int) + 1)) ((p1.length : Int) - 1) (wrap64 ((s1.length : Int) + 1))) else (some false)) else (some false)) = some b ∧ (b = true ↔ ∃ f, gM rowC fitC (A' ++ P') ((B' ++ S').drop f)) := by
      intro hno
      have hno' : ¬ gM rowC fitC (A' ++ P') (B' ++ S') := fun h => hno (hF.iff.1 h)
      rw [if_pos (by omega), bl_size]
      rcases Classical.em (B' ++ S' = []) with hbs | hbs
      · have h0 : B'.length + S'.length = 0 := by rw [← List.length_append, hbs]; rfl
        rw [if_neg (by omega)]
        refine ⟨false, rfl, ⟨fun h => absurd h Bool.false_ne_true, fun h => ?_⟩⟩
        exact absurd h (no_more hno' hbs)
      · obtain ⟨c, R, hbs⟩ := List.exists_cons_of_ne_nil hbs
        have h0 : B'.length + S'.length = R.length + 1 := by rw [← List.length_append, hbs]; rfl
        rw [if_pos (by omega), wN (by omega) (by omega), wN (by omega) (by omega)]
        have hx : (B'.length + S'.length) * W = R.length * W + W := by rw [h0, Nat.succ_mul]
        have hN' : (([] : List UInt8).length + R.length) * W + (A' ++ P').length + R.length ≤ N := by
          rw [List.length_nil, Nat.zero_add, List.length_append]
          rw [hx] at hN
          omega
        obtain ⟨b, hb, hb2⟩ := ih k p1 [] (A' ++ P') (s1 ++ [c]) [] R hN' (by omega) (by rw [hP']; rfl) (by rw [hS', hbs]; simp) GFront.nil hp
        refine ⟨b, ?_, ?_⟩
        · rw [show ((p1.length : Int) - 1) + 1 = ((p1.length + ([] : List CS).length : Nat) : Int) by simp, show ((s1.length : Int) + 1) = (((s1 ++ [c]).length + ([] : List UInt8).length : Nat) : Int) by simp]
          rw [show (((s1 ++ [c]).length : Nat) : Int) = (((s1 ++ [c]).length + ([] : List UInt8).length : Nat) : Int) by simp] at hb
          exact hb
        · rw [hb2]
          rw [one_more (row := rowC) (fit := fitC) (Q := A' ++ P') (T := B' ++ S') hno', hbs]
          simp only [List.nil_append, List.drop_succ_cons]
    cases P' with
    | nil =>
      cases S' with
      | nil =>
        refine ⟨true, ?_, fun _ => ⟨0, hF.iff.2 rfl⟩, fun _ => rfl⟩
        simp only [List.length_nil] at hlP hlS
        simp only [crit_Like.l0, bl_size]
        rw [if_neg (by omega), decide_eq_false (by omega)]
        simp only [crit_Like.j1]
        rw [if_neg (by first | exact Bool.false_ne_true | exact not_false)]
      | cons c S'' =>
        simp only [List.length_nil, List.length_cons] at hlP hlS
        obtain ⟨b, hb, hb2⟩ := hback (fun h => by cases h)
        refine ⟨b, ?_, hb2⟩
        simp only [crit_Like.l0, bl_size]
        rw [if_pos (by omega)]
        simp only [crit_Like.j1]
        rw [if_pos (by first | trivial | rfl), if_neg (by omega)]
        simp only [crit_Like.j2]
        rw [if_neg (by first | exact Bool.false_ne_true | exact not_false), if_neg (by omega)]
        simp only [crit_Like.j3]
        rw [if_neg (by first | exact Bool.false_ne_true | exact not_false)]
        exact hb
    | cons p P'' =>
      simp only [List.length_cons] at hlP
      have hrd : rd_T41 P ((p1.length + A'.length : Nat) : Int) = p := by
        rw [hP', ← List.append_assoc, ← List.length_append]
        exact rdC _ _ _
      have hstart : crit_Like.l0 (k + 4) (bl S) P ((p1.length + A'.length : Nat) : Int) ((s1.length + B'.length : Nat) : Int) ((p1.length : Int) - 1) (s1.length : Int) = crit_Like.j2 (k + 2) (bl S) P ((p1.length + A'.length : Nat) : Int) ((s1.length + B'.length : Nat) : Int) ((p1.length : Int) - 1) (s1.length : Int) p.f1 := by
        have hj1 : crit_Like.j1 (k + 3) (bl S) P ((p1.length + A'.length : Nat) : Int) ((s1.length + B'.length : Nat) : Int) ((p1.length : Int) - 1) (s1.length : Int) true = crit_Like.j2 (k + 2) (bl S) P ((p1.length + A'.length : Nat) : Int) ((s1.length + B'.length : Nat) : Int) ((p1.length : Int) - 1) (s1.length : Int) p.f1 := by
          simp only [crit_Like.j1]
          rw [if_pos (by first | trivial | rfl), if_pos (by omega), if_pos (by omega), hrd]
        rw [← hj1]
        simp only [crit_Like.l0, bl_size]
        by_cases h1 : ((s1.length + B'.length : Nat) : Int) < (S.length : Int)
        · rw [if_pos h1]
        · rw [if_neg h1, decide_eq_true (by omega)]
      rw [hstart]
      simp only [crit_Like.j2]
      cases hrow : p.f1 with
      | true =>
        rw [if_pos (by first | trivial | rfl)]
        have hN' : (([] : List UInt8).length + S'.length) * W + P''.length + S'.length ≤ N := by
          simp only [List.length_nil, List.length_cons] at hN ⊢
          have : (0 + S'.length) * W ≤ (B'.length + S'.length) * W := Nat.mul_le_mul_right _ (by omega)
          omega
        obtain ⟨b, hb, hb2⟩ := ih (k + 1) (p1 ++ A' ++ [p]) [] P'' (s1 ++ B') [] S' hN' (by omega) (by rw [hP']; simp) (by rw [hS']; simp) GFront.nil (by simp)
        refine ⟨b, ?_, ?_⟩
        · rw [wN (by omega) (by omega)]
          have e1 : (((p1 ++ A' ++ [p]).length + ([] : List CS).length : Nat) : Int) = ((p1.length + A'.length : Nat) : Int) + 1 := by simp; omega
          have e2 : (((s1 ++ B').length + ([] : List UInt8).length : Nat) : Int) = ((s1.length + B'.length : Nat) : Int) := by simp
          have e3 : (((p1 ++ A' ++ [p]).length : Nat) : Int) - 1 = ((p1.length + A'.length : Nat) : Int) := by simp; omega
          have e4 : (((s1 ++ B').length : Nat) : Int) = ((s1.length + B'.length : Nat) : Int) := by simp
          rw [e1, e2, e3, e4] at hb
          exact hb
        · rw [hb2, row_again hF (show rowC p = true from hrow)]
          simp only [List.nil_append]
      | false =>
        rw [if_neg (by first | exact Bool.false_ne_true | exact not_false), if_pos (by omega)]
        cases S' with
        | nil =>
          simp only [List.length_nil] at hlS
          obtain ⟨b, hb, hb2⟩ := hback (no_fit (show rowC p = false from hrow) (fun c S'' h => by cases h))
          refine ⟨b, ?_, hb2⟩
          rw [bl_size, if_neg (by omega)]
          simp only [crit_Like.j3]
          rw [if_neg (by first | exact Bool.false_ne_true | exact not_false)]
          exact hb
        | cons c S'' =>
          simp only [List.length_cons] at hlS
          have hbt : bt (bl S) ((s1.length + B'.length : Nat) : Int) = (c.toNat : Int) := by
            rw [hS', ← List.append_assoc, ← List.length_append]
            exact bt_mid _ _ _
          rw [bl_size, if_pos (by omega), if_pos (by omega), if_pos (by omega), hrd, hbt, fits_eq, Option.bind_some]
          simp only [crit_Like.j3]
          cases hfit : fitC p c with
          | true =>
            rw [if_pos (by first | trivial | rfl)]
            have hN' : ((B' ++ [c]).length + S''.length) * W + P''.length + S''.length ≤ N := by
              have e : (B' ++ [c]).length + S''.length = B'.length + (S''.length + 1) := by rw [List.length_append, List.length_singleton]; omega
              rw [e]
              simp only [List.length_cons] at hN
              omega
            obtain ⟨b, hb, hb2⟩ := ih k p1 (A' ++ [p]) P'' s1 (B' ++ [c]) S'' hN' (by omega) (by rw [hP']; simp) (by rw [hS']; simp) (GFront.snoc hF (show rowC p = false from hrow) hfit) hp
            refine ⟨b, ?_, ?_⟩
            · rw [wN (by omega) (by omega), wN (by omega) (by omega)]
              have e1 : ((p1.length + (A' ++ [p]).length : Nat) : Int) = ((p1.length + A'.length : Nat) : Int) + 1 := by simp; omega
              have e2 : ((s1.length + (B' ++ [c]).length : Nat) : Int) = ((s1.length + B'.length : Nat) : Int) + 1 := by simp; omega
              rw [e1, e2] at hb
              exact hb
            · rw [hb2]
              simp only [List.append_assoc, List.cons_append, List.nil_append]
          | false =>
            rw [if_neg (by first | exact Bool.false_ne_true | exact not_false)]
            obtain ⟨b, hb, hb2⟩ := hback (no_fit (show rowC p = false from hrow) (fun c' S3 h => by obtain ⟨rfl, rfl⟩ := List.cons.inj h; exact hfit))
            exact ⟨b, hb, hb2⟩
theorem crit_Like_A (P : List CS) (S : List UInt8) (hP : P.length ≤ 1000) (hS : S.length ≤ 1000) : ∀ (N k : Nat) (A' P' : List CS) (B' S' : List UInt8),
    P'.length + S'.length ≤ N → 4 * N + 8028020 ≤ k → P = A' ++ P' → S = B' ++ S' → GFront rowC fitC A' B' →
    ∃ b, crit_Like.l0 k (bl S) P (A'.length : Int) (B'.length : Int) (-1) 0 = some b ∧ (b = true ↔ gM rowC fitC P' S') := by
  intro N
  induction N with
  | zero =>
    intro k A' P' B' S' hN hk hP' hS' hF
    obtain ⟨k, rfl⟩ : ∃ m, k = m + 2 := ⟨k - 2, by omega⟩
    obtain rfl : P' = [] := List.eq_nil_of_length_eq_zero (by omega)
    obtain rfl : S' = [] := List.eq_nil_of_length_eq_zero (by omega)
    refine ⟨true, ?_, fun _ => rfl, fun _ => rfl⟩
    have hlP : P.length = A'.length := by rw [hP']; simp
    have hlS : S.length = B'.length := by rw [hS']; simp
    simp only [crit_Like.l0, bl_size]
    rw [if_neg (by omega), decide_eq_false (by omega)]
    simp only [crit_Like.j1]
    rw [if_neg (by first | exact Bool.false_ne_true | exact not_false)]
  | succ N ih =>
    intro k A' P' B' S' hN hk hP' hS' hF
    obtain ⟨k, rfl⟩ : ∃ m, k = m + 4 := ⟨k - 4, by omega⟩
    have hlP : P.length = A'.length + P'.length := by rw [hP']; simp
    have hlS : S.length = B'.length + S'.length := by rw [hS']; simp
    cases P' with
    | nil =>
      cases S' with
      | nil =>
        refine ⟨true, ?_, fun _ => rfl, fun _ => rfl⟩
        simp only [List.length_nil] at hlP hlS
        simp only [crit_Like.l0, bl_size]
        rw [if_neg (by omega), decide_eq_false (by omega)]
        simp only [crit_Like.j1]
        rw [if_neg (by first | exact Bool.false_ne_true | exact not_false)]
      | cons c S'' =>
        simp only [List.length_nil, List.length_cons] at hlP hlS
        refine ⟨false, ?_, fun h => absurd h Bool.false_ne_true, fun h => by cases h⟩
        simp only [crit_Like.l0, bl_size]
        rw [if_pos (by omega)]
        simp only [crit_Like.j1]
        rw [if_pos (by first | trivial | rfl), if_neg (by omega)]
        simp only [crit_Like.j2]
        rw [if_neg (by first | exact Bool.false_ne_true | exact not_false), if_neg (by omega)]
        simp only [crit_Like.j3]
        rw [if_neg (by first | exact Bool.false_ne_true | exact not_false), if_neg (by decide)]
    | cons p P'' =>
      simp only [List.length_cons] at hlP
      have hrd : rd_T41 P (A'.length : Int) = p := by
        rw [hP']
        exact rdC _ _ _
      have hstart : crit_Like.l0 (k + 4) (bl S) P (A'.length : Int) (B'.length : Int) (-1) 0 = crit_Like.j2 (k + 2) (bl S) P (A'.length : Int) (B'.length : Int) (-1) 0 p.f1 := by
        have hj1 : crit_Like.j1 (k + 3) (bl S) P (A'.length : Int) (B'.length : Int) (-1) 0 true = crit_Like.j2 (k + 2) (bl S) P (A'.length : Int) (B'.length : Int) (-1) 0 p.f1 := by
          simp only [crit_Like.j1]
          rw [if_pos (by first | trivial | rfl), if_pos (by omega), if_pos (by omega), hrd]
        rw [← hj1]
        simp only [crit_Like.l0, bl_size]
        by_cases h1 : (B'.length : Int) < (S.length : Int)
        · rw [if_pos h1]
        · rw [if_neg h1, decide_eq_true (by omega)]
      rw [hstart]
      simp only [crit_Like.j2]
      cases hrow : p.f1 with
      | true =>
        rw [if_pos (by first | trivial | rfl)]
        obtain ⟨b, hb, hb2⟩ := crit_Like_B P S hP hS 2003 (by omega) 2007003 (k + 1) (A' ++ [p]) [] P'' B' [] S' (by
            rw [List.length_nil]
            omega) (by omega) (by rw [hP']; simp) (by rw [hS']; simp) GFront.nil (by simp)
        refine ⟨b, ?_, ?_⟩
        · rw [wN (by omega) (by omega)]
          have e1 : (((A' ++ [p]).length + ([] : List CS).length : Nat) : Int) = (A'.length : Int) + 1 := by simp
          have e2 : ((B'.length + ([] : List UInt8).length : Nat) : Int) = (B'.length : Int) := by simp
          have e3 : (((A' ++ [p]).length : Nat) : Int) - 1 = (A'.length : Int) := by simp
          rw [e1, e2, e3] at hb
          exact hb
        · rw [hb2, gM_row (show rowC p = true from hrow)]
          simp only [List.nil_append]
      | false =>
        rw [if_neg (by first | exact Bool.false_ne_true | exact not_false), if_pos (by omega)]
        cases S' with
        | nil =>
          simp only [List.length_nil] at hlS
          refine ⟨false, ?_, fun h => absurd h Bool.false_ne_true, fun h => absurd h (no_fit (show rowC p = false from hrow) (fun c S'' h => by cases h))⟩
          rw [bl_size, if_neg (by omega)]
          simp only [crit_Like.j3]
          rw [if_neg (by first | exact Bool.false_ne_true | exact not_false), if_neg (by decide)]
        | cons c S'' =>
          simp only [List.length_cons] at hlS
          have hbt : bt (bl S) (B'.length : Int) = (c.toNat : Int) := by
            rw [hS']
            exact bt_mid _ _ _
          rw [bl_size, if_pos (by omega), if_pos (by omega), if_pos (by omega), hrd, hbt, fits_eq, Option.bind_some]
          simp only [crit_Like.j3]
          cases hfit : fitC p c with
          | true =>
            rw [if_pos (by first | trivial | rfl)]
            obtain ⟨b, hb, hb2⟩ := ih k (A' ++ [p]) P'' (B' ++ [c]) S'' (by simp only [List.length_cons] at hN; omega) (by omega) (by rw [hP']; simp) (by rw [hS']; simp) (GFront.snoc hF (show rowC p = false from hrow) hfit)
            refine ⟨b, ?_, ?_⟩
            · rw [wN (by omega) (by omega), wN (by omega) (by omega)]
              have e1 : (((A' ++ [p]).length : Nat) : Int) = (A'.length : Int) + 1 := by simp
              have e2 : (((B' ++ [c]).length : Nat) : Int) = (B'.length : Int) + 1 := by simp
              rw [e1, e2] at hb
              exact hb
            · rw [hb2, gM_one (show rowC p = false from hrow)]
              exact ⟨fun h => ⟨c, S'', rfl, hfit, h⟩, fun ⟨c', s', e, _, h⟩ => by obtain ⟨rfl, rfl⟩ := List.cons.inj e; exact h⟩
          | false =>
            rw [if_neg (by first | exact Bool.false_ne_true | exact not_false), if_neg (by decide)]
            exact ⟨false, rfl, fun h => absurd h Bool.false_ne_true, fun h => absurd h (no_fit (show rowC p = false from hrow) (fun c' S3 h => by obtain ⟨rfl, rfl⟩ := List.cons.inj h; exact hfit))⟩
def likeP (p s : List UInt8) : Prop := gM rowC fitC ((stepsL (foldL p) false).map toC) (foldL s)
theorem crit_Like_eq (k : Nat) (hk : 8100000 ≤ k) (p s : List UInt8) (hp : p.length ≤ 900) (hs : s.length ≤ 900) : ∃ b, crit_Like.f k (bl p) (bl s) = some b ∧ (b = true ↔ likeP p s) := by
  unfold crit_Like.f likeP
  have hl := stepsL_length (foldL p) false
  rw [foldL_length] at hl
  rw [crit_steps_eq k p (by omega) (by omega), Option.bind_some, value_Fold_eq s (by omega), Option.bind_some]
  exact crit_Like_A _ (foldL s) (by rw [List.length_map]; omega) (by rw [foldL_length]; omega) 1901 k [] _ [] _ (by rw [List.length_map, foldL_length]; omega) (by omega) rfl rfl GFront.nil
def wildB (l : List (Int × Int)) : Bool := l.any fun p => p.1 == 63 || p.1 == 42
theorem crit_Wild_l0 (P : List (Int × Int)) (hP : P.length ≤ 40000000000001) : ∀ (r pre : List (Int × Int)) (k : Nat), r.length + 1 ≤ k → P = pre ++ r →
    crit_Wild.l0 k (P.map toC) ((P.map toC).length : Int) (pre.length : Int) = some (wildB r) := by
  intro r
  induction r with
  | nil =>
    intro pre k hk h
    obtain ⟨k, rfl⟩ : ∃ m, k = m + 1 := ⟨k - 1, by omega⟩
    simp only [crit_Wild.l0, List.length_map]
    rw [if_neg (by rw [h]; simp)]
    rfl
  | cons x r ih =>
    intro pre k hk h
    simp only [List.length_cons] at hk
    obtain ⟨k, rfl⟩ : ∃ m, k = m + 1 := ⟨k - 1, by omega⟩
    have hlen : P.length = pre.length + r.length + 1 := by rw [h]; simp; omega
    have hrd : rd_T41 (P.map toC) (pre.length : Int) = toC x := by
      rw [h, List.map_append, List.map_cons]
      have := rdC (pre.map toC) (r.map toC) (toC x)
      rw [List.length_map] at this
      exact this
    have := ih (pre ++ [x]) k (by omega) (by rw [h]; simp)
    rw [List.length_map, show (((pre ++ [x]).length : Nat) : Int) = (pre.length : Int) + 1 by simp] at this
    simp only [crit_Wild.l0, List.length_map, hrd]
    rw [if_pos (by omega), if_pos (by omega), if_pos (by omega), wN (by omega) (by omega), this]
    unfold wildB toC
    cases h63 : x.1 == 63 <;> cases h42 : x.1 == 42 <;> simp [h63, h42]
theorem crit_Wild_eq (k : Nat) (p : List UInt8) (hp : p.length ≤ 40000000000000) (hk : 2 * p.length + 2 ≤ k) : crit_Wild.f k (bl p) = some (wildB (stepsL (foldL p) false)) := by
  unfold crit_Wild.f
  rw [crit_steps_eq k p hp hk, Option.bind_some]
  have hl := stepsL_length (foldL p) false
  rw [foldL_length] at hl
  exact crit_Wild_l0 _ (by omega) _ [] k (by omega) rfl
end Go.Proofs.YtngdggmlfoogcaaDoor.Pr
end
section
namespace Go.Proofs.YtngdggmlfoogcaaDoor.Pr
set_option linter.unusedVariables false
set_option linter.unusedSimpArgs false
open Go.RowKit Go.Proofs.YtngdggmlfoogcaaDoorW.PrintWords Go.Proofs.YtngdggmlfoogcaaDoorW.PrintMore
noncomputable def likeB (p s : List UInt8) : Bool := @decide (likeP p s) (Classical.propDecidable _)
theorem likeB_iff (p s : List UInt8) : (likeB p s = true) = likeP p s := by
  unfold likeB
  exact propext (@decide_eq_true_iff _ (Classical.propDecidable _))
theorem crit_Like_B_eq (k : Nat) (hk : 8100000 ≤ k) (p s : List UInt8) (hp : p.length ≤ 900) (hs : s.length ≤ 900) : crit_Like.f k (bl p) (bl s) = some (likeB p s) := by
  obtain ⟨b, h, hb⟩ := crit_Like_eq k hk p s hp hs
  rw [h]
  congr 1
  rw [Bool.eq_iff_iff, hb, likeB_iff]
end Go.Proofs.YtngdggmlfoogcaaDoor.Pr
end
section
namespace Go.Proofs.YtngdggmlfoogcaaDoor.Pr
set_option linter.unusedVariables false
set_option linter.unusedSimpArgs false
open Go.RowKit Go.Proofs.YtngdggmlfoogcaaDoorW.PrintWords Go.Proofs.YtngdggmlfoogcaaDoorW.PrintMore
abbrev RS := S57
def toR (p : Int × Int) : RS := ⟨p.1, p.2⟩
theorem ref_steps_l0 (l : List UInt8) (hl : l.length ≤ 40000000000000) : ∀ (n : Nat) (r pre : List UInt8) (k : Nat) (acc : List RS), r.length ≤ n → 2 * r.length + 1 ≤ k → l = pre ++ r → acc.length ≤ pre.length →
    foolscapref13_steps.l0 k (bl l) acc (pre.length : Int) = some (acc ++ (stepsL r false).map toR) := by
  intro n
  induction n with
  | zero =>
    intro r pre k acc hn hk h ha
    obtain rfl : r = [] := List.eq_nil_of_length_eq_zero (by omega)
    obtain ⟨k, rfl⟩ : ∃ m, k = m + 1 := ⟨k - 1, by omega⟩
    simp only [foolscapref13_steps.l0, bl_size]
    rw [if_neg (by rw [h]; simp)]
    simp [stepsL]
  | succ n ih =>
    intro r pre k acc hn hk h ha
    obtain ⟨k, rfl⟩ : ∃ m, k = m + 1 := ⟨k - 1, by omega⟩
    cases r with
    | nil =>
      simp only [foolscapref13_steps.l0, bl_size]
      rw [if_neg (by rw [h]; simp)]
      simp [stepsL]
    | cons c r =>
      simp only [List.length_cons] at hn hk
      obtain ⟨k, rfl⟩ : ∃ m, k = m + 1 := ⟨k - 1, by omega⟩
      have hlen : l.length = pre.length + r.length + 1 := by rw [h]; simp; omega
      have hb : bt (bl l) (pre.length : Int) = (c.toNat : Int) := by rw [h]; exact bt_mid pre r c
      have ew : wrap64 ((pre.length : Int) + 1) = (pre.length : Int) + 1 := wN (by omega) (by omega)
      have hone : ∀ x : RS, foolscapref13_steps.l0 k (bl l) (acc ++ [x]) ((pre.length : Int) + 1) = some (acc ++ [x] ++ (stepsL r false).map toR) := by
        intro x
        have := ih r (pre ++ [c]) k (acc ++ [x]) (by omega) (by omega) (by rw [h]; simp) (by simp; omega)
        rw [show (((pre ++ [c]).length : Nat) : Int) = (pre.length : Int) + 1 by simp] at this
        exact this
      simp only [foolscapref13_steps.l0, bl_size]
      rw [if_pos (by omega), if_pos (by omega), hb, ew]
      have e126 : ((c.toNat : Int) = 126) ↔ c = 126 := iff_of_eq (u8_is c 126)
      have e42 : ((c.toNat : Int) = 42) ↔ c = 42 := iff_of_eq (u8_is c 42)
      have e63 : ((c.toNat : Int) = 63) ↔ c = 63 := iff_of_eq (u8_is c 63)
      have hf : foolscapref13_steps.j1 (k + 1) (bl l) acc (pre.length : Int) false = some (acc ++ (if c = 63 ∨ c = 42 then toR ((c.toNat : Int), 0) else toR (0, (c.toNat : Int))) :: (stepsL r false).map toR) := by
        simp only [foolscapref13_steps.j1, bl_size]
        rw [if_neg (by first | exact Bool.false_ne_true | exact not_false), if_pos (by omega), if_pos (by omega), hb, ew]
        by_cases c42 : c = 42
        · rw [if_pos (e42.2 c42), if_pos (by omega), hone, if_pos (Or.inr c42)]; simp [toR]
        rw [if_neg (fun hh => c42 (e42.1 hh))]
        by_cases c63 : c = 63
        · rw [if_pos (e63.2 c63), if_pos (by omega), hone, if_pos (Or.inl c63)]; simp [toR]
        rw [if_neg (fun hh => c63 (e63.1 hh)), if_pos (by omega), hone, if_neg (fun hh => hh.elim c63 c42)]
        simp [toR]
      by_cases c126 : c = 126
      · rw [if_pos (e126.2 c126)]
        cases r with
        | nil =>
          rw [show decide ((pre.length : Int) + 1 < (l.length : Int)) = false from decide_eq_false (by rw [hlen]; simp), hf, c126]
          rfl
        | cons d r =>
          simp only [List.length_cons] at hn hk hlen
          rw [show decide ((pre.length : Int) + 1 < (l.length : Int)) = true from decide_eq_true (by omega)]
          have hd : bt (bl l) ((pre.length : Int) + 1) = (d.toNat : Int) := by
            have := bt_mid (pre ++ [c]) r d
            rw [show (((pre ++ [c]).length : Nat) : Int) = (pre.length : Int) + 1 by simp] at this
            rw [h, ← this]; simp
          have := ih r (pre ++ [c, d]) k (acc ++ [toR (0, (d.toNat : Int))]) (by omega) (by omega) (by rw [h]; simp) (by simp; omega)
          rw [show (((pre ++ [c, d]).length : Nat) : Int) = (pre.length : Int) + 1 + 1 by simp; omega] at this
          simp only [foolscapref13_steps.j1, bl_size]
          rw [if_pos (by first | trivial | rfl), ew, if_pos (by omega), if_pos (by omega), if_pos (by omega), hd, wN (by omega) (by omega)]
          refine this.trans ?_
          rw [c126]
          simp [stepsL, toR]
      · rw [if_neg (fun hh => c126 (e126.1 hh)), hf]
        simp only [stepsL]
        rw [if_neg c126]
        by_cases cc : c = 63 ∨ c = 42
        · rw [if_pos cc, if_pos cc]; rfl
        · rw [if_neg cc, if_neg cc]; rfl
theorem ref_steps_eq (k : Nat) (l : List UInt8) (hl : l.length ≤ 40000000000000) (hk : 2 * l.length + 1 ≤ k) : foolscapref13_steps.f k (bl l) = some ((stepsL l false).map toR) := by
  have := ref_steps_l0 l hl l.length l [] k [] (Nat.le_refl _) hk rfl (Nat.le_refl _)
  rw [List.nil_append] at this
  exact this
noncomputable def gMB (P : List CS) (s : List UInt8) : Bool := @decide (gM rowC fitC P s) (Classical.propDecidable _)
theorem gMB_iff {P : List CS} {s : List UInt8} : gMB P s = true ↔ gM rowC fitC P s := by
  unfold gMB
  exact @decide_eq_true_iff _ (Classical.propDecidable _)
theorem gMB_eq {P Q : List CS} {s t : List UInt8} (h : gM rowC fitC P s ↔ gM rowC fitC Q t) : gMB P s = gMB Q t := by
  rw [Bool.eq_iff_iff, gMB_iff, gMB_iff, h]
theorem rdB_set (x : List Bool) (i j : Nat) (b : Bool) (hi : i < x.length) : rdOf false (x.set i b) (j : Int) = if i = j then b else rdOf false x (j : Int) := by
  unfold rdOf
  simp only [Int.toNat_natCast, List.getD_eq_getElem?_getD, List.getElem?_set]
  by_cases h : i = j
  · rw [if_pos h, if_pos h, if_pos hi]; rfl
  · rw [if_neg h, if_neg h]
def tabFrom (x : List Bool) (Q : List CS) (s : List UInt8) (n : Nat) : Prop := x.length = s.length + 1 ∧ ∀ j, n ≤ j → j ≤ s.length → rdOf false x (j : Int) = gMB Q (s.drop j)
theorem tab_set {x : List Bool} {Q : List CS} {s : List UInt8} {n : Nat} {b : Bool} (h : tabFrom x Q s (n + 1)) (hn : n ≤ s.length) (hb : b = gMB Q (s.drop n)) : tabFrom (x.set n b) Q s n := by
  refine ⟨by rw [List.length_set]; exact h.1, fun j h1 h2 => ?_⟩
  rw [rdB_set x n j b (by rw [h.1]; omega)]
  by_cases e : n = j
  · rw [if_pos e, hb, e]
  · rw [if_neg e]; exact h.2 j (by omega) h2
theorem drop_at (s : List UInt8) (n : Nat) (h : n < s.length) : ∃ c, s.drop n = c :: s.drop (n + 1) ∧ bt (bl s) (n : Int) = (c.toNat : Int) := by
  refine ⟨s[n], (List.drop_eq_getElem_cons h), ?_⟩
  have := bt_mid (s.take n) (s.drop (n + 1)) s[n]
  rw [List.length_take, Nat.min_eq_left (by omega), ← List.drop_eq_getElem_cons h, List.take_append_drop] at this
  exact this
theorem ref_like_l1 (s : List UInt8) (hs : s.length ≤ 1000) (L Q : List (Int × Int)) (i : Nat) (p : Int × Int) (hi : i < L.length) (hL : L.length ≤ 1000) (hd : L.drop i = p :: Q) (x5 : List Bool) (h5 : tabFrom x5 (Q.map toC) s 0) (F : Option Bool) (k0 : Nat) (hF : ∀ k x8, k0 ≤ k → tabFrom x8 ((p :: Q).map toC) s 0 → foolscapref13_like.l0 k (bl s) x8 (L.map toR) ((i : Int) - 1) = F) :
    ∀ (n : Nat) (k : Nat) (x8 : List Bool), n ≤ s.length + 1 → k0 + n + 1 ≤ k → tabFrom x8 ((p :: Q).map toC) s n → foolscapref13_like.l1 k (bl s) x5 (L.map toR) (i : Int) x8 ((n : Int) - 1) = F := by
  intro n
  induction n with
  | zero =>
    intro k x8 hn hk h8
    obtain ⟨k, rfl⟩ : ∃ m, k = m + 1 := ⟨k - 1, by omega⟩
    simp only [foolscapref13_like.l1]
    rw [if_neg (by omega), wN (by omega) (by omega)]
    exact hF k x8 (by omega) h8
  | succ n ih =>
    intro k x8 hn hk h8
    obtain ⟨k, rfl⟩ : ∃ m, k = m + 1 := ⟨k - 1, by omega⟩
    have hn' : n ≤ s.length := by omega
    have hrd : rd_T57 (L.map toR) (i : Int) = toR p := by
      have : L[i]? = some p := by
        have := List.getElem?_drop (xs := L) (i := i) (j := 0)
        rw [hd] at this
        simpa using this.symm
      simp [rd_T57, List.getD_eq_getElem?_getD, this]
    have hl8 : (x8.length : Int) = (s.length : Int) + 1 := by rw [h8.1]; simp
    have hl5 : (x5.length : Int) = (s.length : Int) + 1 := by rw [h5.1]; simp
    have hgo : ∀ b : Bool, b = gMB ((p :: Q).map toC) (s.drop n) → foolscapref13_like.l1 k (bl s) x5 (L.map toR) (i : Int) (x8.set n b) ((n : Int) - 1) = F := by
      intro b hb
      exact ih k (x8.set n b) (by omega) (by omega) (tab_set h8 hn' hb)
    rw [show (((n + 1 : Nat) : Int) - 1) = (n : Int) by omega]
    simp only [foolscapref13_like.l1, bl_size, List.length_map, hrd, Int.toNat_natCast]
    rw [if_pos (by omega), if_pos (by omega), if_pos (by omega), wN (a := (n : Int) - 1) (by omega) (by omega), wN (a := (n : Int) + 1) (by omega) (by omega)]
    have hx5 : ∀ j, j ≤ s.length → rdOf false x5 (j : Int) = gMB (Q.map toC) (s.drop j) := fun j hj => h5.2 j (Nat.zero_le _) hj
    have hx51 : n < s.length → rdOf false x5 ((n : Int) + 1) = gMB (Q.map toC) (s.drop (n + 1)) := fun hj => by
      have := hx5 (n + 1) (by omega)
      rw [show (((n + 1 : Nat)) : Int) = (n : Int) + 1 by omega] at this
      exact this
    have hx81 : n < s.length → rdOf false x8 ((n : Int) + 1) = gMB ((p :: Q).map toC) (s.drop (n + 1)) := fun hj => by
      have := h8.2 (n + 1) (Nat.le_refl _) (by omega)
      rw [show (((n + 1 : Nat)) : Int) = (n : Int) + 1 by omega] at this
      exact this
    have hlast : ¬ n < s.length → s.drop n = [] := fun hj => List.drop_eq_nil_of_le (by omega)
    by_cases k42 : p.1 = 42
    · have hrow : rowC (toC p) = true := by unfold rowC toC; simp [k42]
      rw [if_pos (show (toR p).f0 = 42 from k42), if_pos (by omega), if_pos (by omega), hx5 n hn']
      by_cases hq : gMB (Q.map toC) (s.drop n) = true
      · rw [if_pos hq, if_pos (by omega)]
        refine hgo true (Eq.symm (gMB_iff.2 ((gM_row hrow).2 ⟨0, ?_⟩)))
        exact gMB_iff.1 hq
      · rw [if_neg hq]
        have hq' : ¬ gM rowC fitC (Q.map toC) (s.drop n) := fun hh => hq (gMB_iff.2 hh)
        by_cases hj : n < s.length
        · rw [if_pos (by omega), if_pos (by omega), if_pos (by omega), if_pos (by omega), hx81 hj]
          refine hgo _ (gMB_eq ?_)
          rw [List.map_cons, gM_row hrow, gM_row hrow, one_more hq']
          simp only [List.drop_drop]
          constructor
          · rintro ⟨j, h⟩; exact ⟨j, by rw [show n + (j + 1) = n + 1 + j by omega]; exact h⟩
          · rintro ⟨j, h⟩; exact ⟨j, by rw [show n + 1 + j = n + (j + 1) by omega]; exact h⟩
        · rw [if_neg (by omega), if_pos (by omega)]
          refine hgo false (Eq.symm ?_)
          rw [Bool.eq_false_iff]
          intro hh
          exact no_more hq' (hlast hj) ((gM_row hrow).1 (gMB_iff.1 hh))
    · have hrow : rowC (toC p) = false := by unfold rowC toC; simp [k42]
      have hnil : ¬ n < s.length → gMB ((p :: Q).map toC) (s.drop n) = false := by
        intro hj
        rw [Bool.eq_false_iff]
        intro hh
        obtain ⟨c, s', e, _, _⟩ := (gM_one hrow).1 (gMB_iff.1 hh)
        rw [hlast hj] at e
        cases e
      rw [if_neg (show ¬ (toR p).f0 = 42 from k42)]
      by_cases k63 : p.1 = 63
      · rw [if_pos (show (toR p).f0 = 63 from k63)]
        by_cases hj : n < s.length
        · rw [if_pos (by omega), if_pos (by omega), if_pos (by omega), if_pos (by omega), if_pos (by omega), hx51 hj]
          refine hgo _ ?_
          rw [Bool.eq_iff_iff, gMB_iff, gMB_iff, List.map_cons, gM_one hrow]
          obtain ⟨c, hc, _⟩ := drop_at s n hj
          constructor
          · intro h; exact ⟨c, _, hc, by unfold fitC toC; simp [k63], h⟩
          · rintro ⟨c', s', e, _, h⟩
            rw [hc] at e
            obtain ⟨rfl, rfl⟩ := List.cons.inj e
            exact h
        · rw [if_neg (by omega), if_pos (by omega), if_pos (by omega)]
          exact hgo false (hnil hj).symm
      · rw [if_neg (show ¬ (toR p).f0 = 63 from k63)]
        by_cases hj : n < s.length
        · obtain ⟨c, hc, hbt⟩ := drop_at s n hj
          rw [if_pos (by omega), if_pos (by omega), hbt]
          by_cases hcc : (c.toNat : Int) = p.2
          · rw [if_pos (show (c.toNat : Int) = (toR p).f1 from hcc), if_pos (by omega), if_pos (by omega), if_pos (by omega), hx51 hj]
            refine hgo _ ?_
            rw [Bool.eq_iff_iff, gMB_iff, gMB_iff, List.map_cons, gM_one hrow]
            constructor
            · intro h; exact ⟨c, _, hc, by unfold fitC toC; simp [k42, hcc], h⟩
            · rintro ⟨c', s', e, _, h⟩
              rw [hc] at e
              obtain ⟨rfl, rfl⟩ := List.cons.inj e
              exact h
          · rw [if_neg (show ¬ (c.toNat : Int) = (toR p).f1 from hcc), if_pos (by omega)]
            refine hgo false (Eq.symm ?_)
            rw [Bool.eq_false_iff]
            intro hh
            obtain ⟨c', s', e, hf, _⟩ := (gM_one hrow).1 (gMB_iff.1 hh)
            rw [hc] at e
            obtain ⟨rfl, rfl⟩ := List.cons.inj e
            unfold fitC toC at hf
            simp only [Bool.or_eq_true, Bool.and_eq_true, beq_iff_eq] at hf
            rcases hf with hf | hf
            · exact k63 hf
            · exact hcc hf.2.symm
        · rw [if_neg (by omega), if_pos (by omega), if_pos (by omega)]
          exact hgo false (hnil hj).symm
theorem rep_tab (s : List UInt8) (Q : List CS) : tabFrom (List.replicate (s.length + 1) false) Q s (s.length + 1) := ⟨List.length_replicate, fun j h1 h2 => absurd h2 (by omega)⟩
theorem ref_like_l0 (s : List UInt8) (hs : s.length ≤ 1000) (L : List (Int × Int)) (hL : L.length ≤ 1000) (W : Nat) (hW : 1004 ≤ W) : ∀ (m : Nat) (k : Nat) (x5 : List Bool), m ≤ L.length → m * W + 1 ≤ k → tabFrom x5 ((L.drop m).map toC) s 0 →
    foolscapref13_like.l0 k (bl s) x5 (L.map toR) ((m : Int) - 1) = some (gMB (L.map toC) s) := by
  intro m
  induction m with
  | zero =>
    intro k x5 hm hk h5
    obtain ⟨k, rfl⟩ : ∃ j, k = j + 1 := ⟨k - 1, by omega⟩
    simp only [foolscapref13_like.l0]
    rw [if_neg (by omega), if_pos (by have := h5.1; omega)]
    have := h5.2 0 (Nat.le_refl _) (Nat.zero_le _)
    rw [List.drop_zero, List.drop_zero] at this
    rw [← this]
    rfl
  | succ m ih =>
    intro k x5 hm hk h5
    obtain ⟨k, rfl⟩ : ∃ j, k = j + 1 := ⟨k - 1, by omega⟩
    have hml : m < L.length := by omega
    have hd : L.drop m = L[m] :: L.drop (m + 1) := List.drop_eq_getElem_cons hml
    rw [Nat.succ_mul] at hk
    generalize ht : m * W = t at hk ih
    have := ref_like_l1 s hs L (L.drop (m + 1)) m L[m] hml hL hd x5 h5 (some (gMB (L.map toC) s)) (t + 1) (fun k' x8 hk' h8 => ih k' x8 (by omega) hk' (by rw [hd]; exact h8)) (s.length + 1) k (List.replicate (s.length + 1) false) (Nat.le_refl _) (by omega) (rep_tab s _)
    rw [show (((s.length + 1 : Nat) : Int) - 1) = (s.length : Int) by omega] at this
    rw [show (((m + 1 : Nat) : Int) - 1) = (m : Int) by omega]
    simp only [foolscapref13_like.l0, bl_size]
    rw [if_pos (by omega), wN (by omega) (by omega), if_pos (by omega), show ((s.length : Int) + 1).toNat = s.length + 1 by omega, if_pos (by omega)]
    exact this
theorem ref_like_eq (k : Nat) (hk : 1010000 ≤ k) (p s : List UInt8) (hp : p.length ≤ 900) (hs : s.length ≤ 900) : foolscapref13_like.f k (bl p) (bl s) = some (gMB ((stepsL p false).map toC) s) := by
  unfold foolscapref13_like.f
  have hl := stepsL_length p false
  have hn : ((s.length : Int) + 1).toNat = s.length + 1 := by omega
  simp only [bl_size]
  rw [wN (by omega) (by omega), if_pos (by omega), hn, if_pos (by omega), Option.bind_some, if_pos (by omega), if_pos (by rw [List.length_replicate]; omega), ref_steps_eq k p (by omega) (by omega), Option.bind_some, List.length_map, Int.toNat_natCast, wN (by omega) (by omega)]
  refine ref_like_l0 s (by omega) (stepsL p false) (by omega) 1004 (Nat.le_refl _) (stepsL p false).length k _ (Nat.le_refl _) ?_ ?_
  · exact Nat.le_trans (Nat.add_le_add_right (Nat.mul_le_mul_right 1004 (show (stepsL p false).length ≤ 901 by omega)) 1) (Nat.le_trans (by decide : 901 * 1004 + 1 ≤ 1010000) hk)
  · rw [List.drop_length]
    refine tab_set (rep_tab s []) (Nat.le_refl _) (Eq.symm ?_) |> fun h => ⟨h.1, fun j _ h2 => ?_⟩
    · rw [gMB_iff, List.drop_length]; rfl
    · by_cases hj : j = s.length
      · exact h.2 j (by omega) h2
      · rw [rdB_set _ _ _ _ (by rw [List.length_replicate]; omega), if_neg (fun hh => hj hh.symm)]
        have e0 : rdOf false (List.replicate (s.length + 1) false) (j : Int) = false := by
          unfold rdOf
          rw [List.getD_eq_getElem?_getD, List.getElem?_replicate]
          split <;> rfl
        rw [e0]
        symm
        rw [Bool.eq_false_iff]
        intro hh
        have : s.drop j = [] := gMB_iff.1 hh
        have := List.drop_eq_nil_iff.1 this
        omega
theorem ref_Like_eq (k : Nat) (hk : 1010000 ≤ k) (p s : List UInt8) (hp : p.length ≤ 900) (hs : s.length ≤ 900) : foolscapref13_Like.f k (bl p) (bl s) = some (likeB p s) := by
  unfold foolscapref13_Like.f
  rw [ref_Fold_eq p (by omega), Option.bind_some, ref_Fold_eq s (by omega), Option.bind_some, ref_like_eq k hk _ _ (by rw [foldL_length]; exact hp) (by rw [foldL_length]; exact hs), Option.bind_some]
  rfl
theorem up_sign (c : UInt8) (n : UInt8) (hn : n = 63 ∨ n = 42 ∨ n = 126) : (up c = n) ↔ (c = n) := by
  by_cases g : 97 ≤ c.toNat ∧ c.toNat ≤ 122
  · have h1 := up_le c g.1 g.2
    have e1 : ((63 : UInt8).toNat : Int) = 63 := rfl
    have e2 : ((42 : UInt8).toNat : Int) = 42 := rfl
    have e3 : ((126 : UInt8).toNat : Int) = 126 := rfl
    rcases hn with rfl | rfl | rfl
    all_goals
      constructor
      · intro h; rw [h] at h1; omega
      · intro h; rw [h] at g; exact absurd g (by decide)
  · rw [up_no c g]
def wildR : List UInt8 → Bool → Bool
  | [], _ => false
  | c :: r, true => wildR r false
  | c :: r, false => if c = 126 then wildR r true else if c = 63 ∨ c = 42 then true else wildR r false
theorem wild_steps : ∀ (l : List UInt8) (b : Bool), wildB (stepsL (foldL l) b) = wildR l b
  | [], false => rfl
  | [], true => rfl
  | c :: r, true => by
    show wildB ((0, ((up c).toNat : Int)) :: stepsL (foldL r) false) = wildR r false
    rw [← wild_steps r false]
    rfl
  | c :: r, false => by
    show wildB (stepsL (up c :: foldL r) false) = _
    simp only [stepsL, wildR]
    by_cases h1 : c = 126
    · rw [if_pos ((up_sign c 126 (by simp)).2 h1), if_pos h1, wild_steps r true]
    · rw [if_neg (fun h => h1 ((up_sign c 126 (by simp)).1 h)), if_neg h1]
      by_cases h2 : c = 63 ∨ c = 42
      · rw [if_pos (h2.imp (up_sign c 63 (by simp)).2 (up_sign c 42 (by simp)).2), if_pos h2]
        rcases h2 with rfl | rfl <;> rfl
      · rw [if_neg (fun h => h2 (h.imp (up_sign c 63 (by simp)).1 (up_sign c 42 (by simp)).1)), if_neg h2, ← wild_steps r false]
        rfl
theorem ref_Wild_l0 (l : List UInt8) (hl : l.length ≤ 140737488351232) : ∀ (n : Nat) (r pre : List UInt8) (k : Nat), r.length ≤ n → r.length + 1 ≤ k → l = pre ++ r →
    foolscapref13_Wild.l0 k (bl l) (pre.length : Int) = some (wildR r false) := by
  intro n
  induction n with
  | zero =>
    intro r pre k hn hk h
    obtain rfl : r = [] := List.eq_nil_of_length_eq_zero (by omega)
    obtain ⟨k, rfl⟩ : ∃ m, k = m + 1 := ⟨k - 1, by omega⟩
    simp only [foolscapref13_Wild.l0, bl_size]
    rw [if_neg (by rw [h]; simp)]
    rfl
  | succ n ih =>
    intro r pre k hn hk h
    obtain ⟨k, rfl⟩ : ∃ m, k = m + 1 := ⟨k - 1, by omega⟩
    cases r with
    | nil =>
      simp only [foolscapref13_Wild.l0, bl_size]
      rw [if_neg (by rw [h]; simp)]
      rfl
    | cons c r =>
      simp only [List.length_cons] at hn hk
      have hlen : l.length = pre.length + r.length + 1 := by rw [h]; simp; omega
      have hb : bt (bl l) (pre.length : Int) = (c.toNat : Int) := by rw [h]; exact bt_mid pre r c
      have ew : wrap64 ((pre.length : Int) + 1) = (pre.length : Int) + 1 := wN (by omega) (by omega)
      have e126 : ((c.toNat : Int) = 126) ↔ c = 126 := iff_of_eq (u8_is c 126)
      have e42 : ((c.toNat : Int) = 42) ↔ c = 42 := iff_of_eq (u8_is c 42)
      have e63 : ((c.toNat : Int) = 63) ↔ c = 63 := iff_of_eq (u8_is c 63)
      simp only [foolscapref13_Wild.l0, bl_size]
      rw [if_pos (by omega), if_pos (by omega), hb, ew]
      simp only [wildR]
      by_cases c126 : c = 126
      · rw [if_pos (e126.2 c126), if_pos c126, wN (by omega) (by omega)]
        cases r with
        | nil =>
          obtain ⟨k, rfl⟩ : ∃ m, k = m + 1 := ⟨k - 1, by omega⟩
          simp only [foolscapref13_Wild.l0, bl_size]
          rw [if_neg (by rw [hlen]; simp; omega)]
          rfl
        | cons d r =>
          simp only [List.length_cons] at hn hk hlen
          have := ih r (pre ++ [c, d]) k (by omega) (by omega) (by rw [h]; simp)
          rw [show (((pre ++ [c, d]).length : Nat) : Int) = (pre.length : Int) + 1 + 1 by simp; omega] at this
          exact this
      · have hone := ih r (pre ++ [c]) k (by omega) (by omega) (by rw [h]; simp)
        rw [show (((pre ++ [c]).length : Nat) : Int) = (pre.length : Int) + 1 by simp] at hone
        rw [if_neg (fun hh => c126 (e126.1 hh)), if_neg c126]
        by_cases c63 : c = 63
        · rw [if_pos (e63.2 c63), if_pos (Or.inl c63)]
        rw [if_neg (fun hh => c63 (e63.1 hh))]
        by_cases c42 : c = 42
        · rw [if_pos (e42.2 c42), if_pos (Or.inr c42)]
        rw [if_neg (fun hh => c42 (e42.1 hh)), if_neg (fun hh => hh.elim c63 c42)]
        exact hone
theorem ref_Wild_eq (k : Nat) (p : List UInt8) (hp : p.length ≤ 140737488351232) (hk : p.length + 1 ≤ k) : foolscapref13_Wild.f k (bl p) = some (wildB (stepsL (foldL p) false)) := by
  rw [wild_steps]
  exact ref_Wild_l0 p hp p.length p [] k (Nat.le_refl _) hk rfl
end Go.Proofs.YtngdggmlfoogcaaDoor.Pr
end
