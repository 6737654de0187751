/-
  What the law CritQuiet leans on, out of the texts that were printed and written for this seat: only what its proof mentions (gathered by a program of the author's).
-/
import Derived.Test.YtngdggmlfoogcaaDoorSCritQuiet4
import Derived.Test.YtngdggmlfoogcaaDoorSCritQuiet13
import Derived.Test.YtngdggmlfoogcaaDoorSCritQuiet7
import Derived.Test.YtngdggmlfoogcaaDoorSCritQuiet5
import Derived.Test.YtngdggmlfoogcaaDoorSCritQuiet12
import Derived.Test.YtngdggmlfoogcaaDoorSCritQuiet10
import Derived.Test.YtngdggmlfoogcaaDoorSCritQuiet15
import Derived.Test.YtngdggmlfoogcaaDoorSCritQuiet6
import Derived.Test.YtngdggmlfoogcaaDoorSCritQuiet11
import Derived.Laws.BytesArg
import Derived.Lib.IndexLaws
import Derived.Lib.ItoaNum
import Derived.Lib.ParseIntB
import Derived.Lib.Repeat
import Derived.Lib.SlTrimSet
import Derived.Lib.Strings
import Derived.WalkKit
import Derived.Lib.Bytealg
section
namespace Go.Proofs.YtngdggmlfoogcaaDoor.Pr
set_option linter.unusedVariables false
def bl (l : List UInt8) : ByteArray := ⟨l.toArray⟩
theorem bl_size (a : List UInt8) : (bl a).size = a.length := by simp [bl, ByteArray.size]
theorem bl_toList (a : List UInt8) : (bl a).toList = a := by rw [Lib.toList_data]; simp [bl]
theorem bl_data (a : List UInt8) : (bl a).data.toList = a := by simp [bl]
theorem bl_of (s : ByteArray) : bl s.data.toList = s := by apply ByteArray.ext; simp [bl]
end Go.Proofs.YtngdggmlfoogcaaDoor.Pr
namespace Go.Proofs.YtngdggmlfoogcaaDoor.Pr
set_option linter.unusedVariables false
open Go.RowKit Go.Proofs.YtngdggmlfoogcaaDoorW.PrintWords Go.Proofs.YtngdggmlfoogcaaDoorW.PrintMore
end Go.Proofs.YtngdggmlfoogcaaDoor.Pr
namespace Go.Proofs.YtngdggmlfoogcaaDoor.Pr
set_option linter.unusedVariables false
set_option linter.unusedSimpArgs false
end Go.Proofs.YtngdggmlfoogcaaDoor.Pr
namespace Go.Proofs.YtngdggmlfoogcaaDoor.Pr
set_option linter.unusedVariables false
set_option linter.unusedSimpArgs false
end Go.Proofs.YtngdggmlfoogcaaDoor.Pr
namespace Go.Proofs.YtngdggmlfoogcaaDoor.Pr
set_option linter.unusedVariables false
set_option linter.unusedSimpArgs false
open Go.RowKit Go.Proofs.YtngdggmlfoogcaaDoorW.PrintWords Go.Proofs.YtngdggmlfoogcaaDoorW.PrintMore
theorem wN {a : Int} (h0 : -9223372036854775808 ≤ a) (h1 : a ≤ 9223372036854775807) : wrap64 a = a := by unfold wrap64; omega
end Go.Proofs.YtngdggmlfoogcaaDoor.Pr
namespace Go.Proofs.YtngdggmlfoogcaaDoor.Pr
set_option linter.unusedVariables false
set_option linter.unusedSimpArgs false
open Go.RowKit Go.Proofs.YtngdggmlfoogcaaDoorW.PrintWords Go.Proofs.YtngdggmlfoogcaaDoorW.PrintMore
end Go.Proofs.YtngdggmlfoogcaaDoor.Pr
namespace Go.Proofs.YtngdggmlfoogcaaDoor.Pr
set_option linter.unusedVariables false
set_option linter.unusedSimpArgs false
open Go.RowKit Go.Proofs.YtngdggmlfoogcaaDoorW.PrintWords Go.Proofs.YtngdggmlfoogcaaDoorW.PrintMore
end Go.Proofs.YtngdggmlfoogcaaDoor.Pr
end
section
namespace Go.Proofs.YtngdggmlfoogcaaDoor.Pr
set_option linter.unusedVariables false
set_option linter.unusedSimpArgs false
open Go.RowKit Go.Proofs.YtngdggmlfoogcaaDoorW.PrintWords Go.Proofs.YtngdggmlfoogcaaDoorW.PrintMore
def foldL (l : List UInt8) : List UInt8 := l.map up
theorem foldL_length (l : List UInt8) : (foldL l).length = l.length := by simp [foldL]
theorem value_Fold_eq (l : List UInt8) (h : l.length ≤ 140737488351232) : value_Fold.f (bl l) = some (bl (foldL l)) := by
  unfold value_Fold.f
  rw [if_pos (by rw [bl_size]; exact h)]
  unfold foldB foldL
  rw [bl_data]; rfl
end Go.Proofs.YtngdggmlfoogcaaDoor.Pr
namespace Go.Proofs.YtngdggmlfoogcaaDoor.Pr
set_option linter.unusedVariables false
set_option linter.unusedSimpArgs false
open Go.RowKit Go.Proofs.YtngdggmlfoogcaaDoorW.PrintWords Go.Proofs.YtngdggmlfoogcaaDoorW.PrintMore
end Go.Proofs.YtngdggmlfoogcaaDoor.Pr
namespace Go.Proofs.YtngdggmlfoogcaaDoor.Pr
set_option linter.unusedVariables false
set_option linter.unusedSimpArgs false
open Go.RowKit Go.Proofs.YtngdggmlfoogcaaDoorW.PrintWords Go.Proofs.YtngdggmlfoogcaaDoorW.PrintMore
def cmpZ (a b : Int) : Int := if a < b then -1 else if b < a then 1 else 0
theorem bt_at (p r : List UInt8) (c : UInt8) : bt (bl (p ++ c :: r)) (p.length : Int) = (c.toNat : Int) := by
  have hs : (⟨(p ++ c :: r).toArray⟩ : ByteArray).size = p.length + r.length + 1 := by simp [ByteArray.size]; omega
  unfold bt bl
  simp only [Int.toNat_natCast]
  rw [dif_pos (by rw [hs]; omega)]
  congr 2
  show (p ++ c :: r).toArray[p.length] = c
  simp
theorem z21 : cmpZ 2 1 = 1 := by decide
end Go.Proofs.YtngdggmlfoogcaaDoor.Pr
namespace Go.Proofs.YtngdggmlfoogcaaDoor.Pr
set_option linter.unusedVariables false
set_option linter.unusedSimpArgs false
open Go.RowKit Go.Proofs.YtngdggmlfoogcaaDoorW.PrintWords Go.Proofs.YtngdggmlfoogcaaDoorW.PrintMore
end Go.Proofs.YtngdggmlfoogcaaDoor.Pr
end
section
namespace Go.Proofs.YtngdggmlfoogcaaDoor.Pr
set_option linter.unusedVariables false
set_option linter.unusedSimpArgs false
open Go.RowKit Go.Proofs.YtngdggmlfoogcaaDoorW.PrintWords Go.Proofs.YtngdggmlfoogcaaDoorW.PrintMore
section
variable {α β : Type} (row : α → Bool) (fit : α → β → Bool)
def gM : List α → List β → Prop
  | [], s => s = []
  | p :: ps, s => if row p = true then ∃ k, gM ps (s.drop k) else ∃ c s', s = c :: s' ∧ fit p c = true ∧ gM ps s'
variable {row fit}
theorem gM_row {p : α} {ps : List α} {s : List β} (h : row p = true) : gM row fit (p :: ps) s ↔ ∃ k, gM row fit ps (s.drop k) := by
  show (if row p = true then _ else _) ↔ _
  rw [if_pos h]
theorem gM_one {p : α} {ps : List α} {s : List β} (h : row p = false) : gM row fit (p :: ps) s ↔ ∃ c s', s = c :: s' ∧ fit p c = true ∧ gM row fit ps s' := by
  show (if row p = true then _ else _) ↔ _
  rw [if_neg (by rw [h]; decide)]
inductive GFront (row : α → Bool) (fit : α → β → Bool) : List α → List β → Prop
  | nil : GFront row fit [] []
  | snoc {P : List α} {S : List β} {p : α} {c : β} : GFront row fit P S → row p = false → fit p c = true → GFront row fit (P ++ [p]) (S ++ [c])
theorem GFront.length {P : List α} {S : List β} (h : GFront row fit P S) : P.length = S.length := by
  induction h with
  | nil => rfl
  | snoc _ _ _ ih => simp [ih]
theorem GFront.iff {P Q : List α} {S T : List β} (h : GFront row fit P S) : gM row fit (P ++ Q) (S ++ T) ↔ gM row fit Q T := by
  induction h generalizing Q T with
  | nil => exact Iff.rfl
  | snoc h hp hf ih =>
    rw [List.append_assoc, List.append_assoc, ih]
    show gM row fit (_ :: Q) (_ :: T) ↔ _
    rw [gM_one hp]
    constructor
    · rintro ⟨c, s', e, _, hm⟩
      obtain ⟨rfl, rfl⟩ := List.cons.inj e
      exact hm
    · exact fun hm => ⟨_, _, rfl, hf, hm⟩
theorem GFront.drop {P Q : List α} {S T : List β} (h : GFront row fit P S) (hm : gM row fit (P ++ Q) T) : gM row fit Q (T.drop P.length) := by
  induction h generalizing Q T with
  | nil => exact hm
  | snoc h hp hf ih =>
    rw [List.append_assoc] at hm
    have := ih hm
    obtain ⟨c, s', e, _, hm2⟩ := (gM_one hp).1 this
    rw [List.length_append, ← List.drop_drop, e]
    exact hm2
theorem row_again {A P : List α} {B S : List β} {p : α} (h : GFront row fit A B) (hp : row p = true) : (∃ k, gM row fit (A ++ p :: P) ((B ++ S).drop k)) ↔ ∃ k, gM row fit P (S.drop k) := by
  constructor
  · rintro ⟨k, hk⟩
    obtain ⟨j, hj⟩ := (gM_row hp).1 (h.drop hk)
    refine ⟨k + j, ?_⟩
    rw [List.drop_drop, List.drop_drop, h.length] at hj
    have e : List.drop (k + (B.length + j)) (B ++ S) = List.drop (k + j) S := by
      rw [show k + (B.length + j) = B.length + (k + j) by omega, ← List.drop_drop, List.drop_left]
    rw [← e]
    simpa [Nat.add_assoc] using hj
  · rintro ⟨k, hk⟩
    exact ⟨0, h.iff.2 ((gM_row hp).2 ⟨k, hk⟩)⟩
theorem one_more {Q : List α} {T : List β} (h : ¬ gM row fit Q T) : (∃ k, gM row fit Q (T.drop k)) ↔ ∃ k, gM row fit Q (T.drop (k + 1)) := by
  constructor
  · rintro ⟨k, hk⟩
    cases k with
    | zero => exact absurd hk h
    | succ k => exact ⟨k, hk⟩
  · rintro ⟨k, hk⟩; exact ⟨_, hk⟩
theorem no_more {Q : List α} {T : List β} (h : ¬ gM row fit Q T) (hT : T = []) : ¬ ∃ k, gM row fit Q (T.drop k) := by
  subst hT
  rintro ⟨k, hk⟩
  rw [List.drop_nil] at hk
  exact h hk
theorem no_fit {P : List α} {S : List β} {p : α} (hp : row p = false) (h : ∀ c S', S = c :: S' → fit p c = false) : ¬ gM row fit (p :: P) S := by
  intro hm
  obtain ⟨c, s', rfl, hf, _⟩ := (gM_one hp).1 hm
  rw [h c s' rfl] at hf
  cases hf
end
def stepsL : List UInt8 → Bool → List (Int × Int)
  | [], false => []
  | [], true => [(0, 126)]
  | c :: r, true => (0, (c.toNat : Int)) :: stepsL r false
  | c :: r, false => if c = 126 then stepsL r true else if c = 63 ∨ c = 42 then ((c.toNat : Int), 0) :: stepsL r false else (0, (c.toNat : Int)) :: stepsL r false
abbrev CS := S41
def toC (p : Int × Int) : CS := ⟨p.1 == 63, p.1 == 42, p.2⟩
def rowC (p : CS) : Bool := p.f1
def fitC (p : CS) (c : UInt8) : Bool := p.f0 || (!p.f1 && p.f2 == (c.toNat : Int))
theorem stepsL_length : ∀ (l : List UInt8) (b : Bool), (stepsL l b).length ≤ l.length + 1
  | [], false => by simp [stepsL]
  | [], true => by simp [stepsL]
  | c :: r, true => by have := stepsL_length r false; simp only [stepsL, List.length_cons]; omega
  | c :: r, false => by
    have h1 := stepsL_length r false
    have h2 := stepsL_length r true
    simp only [stepsL]
    split
    · simp only [List.length_cons]; omega
    · split <;> (simp only [List.length_cons]; omega)
theorem u8_is (c : UInt8) (n : UInt8) : ((c.toNat : Int) = (n.toNat : Int)) = (c = n) := by
  refine propext ⟨fun h => UInt8.toNat_inj.mp (by omega), fun h => by rw [h]⟩
theorem rd_mid (p r : List Int) (x : Int) : rd (p ++ x :: r) (p.length : Int) = x := by simp [rd]
theorem numsOf_bl (l : List UInt8) : numsOf (bl l) = l.map fun c => (c.toNat : Int) := by unfold numsOf; rw [bl_data]
theorem crit_stepsB_l0 (l : List UInt8) (hl : l.length ≤ 40000000000000) : ∀ (r pre : List UInt8) (k : Nat) (pl : Bool) (acc : List CS), 2 * r.length + 2 ≤ k → l = pre ++ r → acc.length ≤ pre.length →
    crit_stepsB.l0 k acc pl (l.map fun c => (c.toNat : Int)) (l.length : Int) (pre.length : Int) = some (acc ++ (stepsL r pl).map toC) := by
  intro r
  induction r with
  | nil =>
    intro pre k pl acc hk h ha
    obtain ⟨k, rfl⟩ : ∃ m, k = m + 1 := ⟨k - 1, by omega⟩
    have hlen : l.length = pre.length := by rw [h]; simp
    simp only [crit_stepsB.l0]
    rw [if_neg (by omega)]
    cases pl with
    | true => rw [if_pos (by first | trivial | rfl), if_pos (by omega)]; rfl
    | false => rw [if_neg (by first | exact Bool.false_ne_true | exact not_false)]; simp [stepsL]
  | cons c r ih =>
    intro pre k pl acc hk h ha
    simp only [List.length_cons] at hk
    obtain ⟨k, rfl⟩ : ∃ m, k = m + 2 := ⟨k - 2, by omega⟩
    have hlen : l.length = pre.length + r.length + 1 := by rw [h]; simp; omega
    have hrd : rd (l.map fun c => (c.toNat : Int)) (pre.length : Int) = (c.toNat : Int) := by
      rw [h, List.map_append, List.map_cons]
      have := rd_mid (pre.map fun c => (c.toNat : Int)) (r.map fun c => (c.toNat : Int)) (c.toNat : Int)
      rw [List.length_map] at this
      exact this
    have hw : wrap64 ((pre.length : Int) + 1) = ((pre ++ [c]).length : Int) := by rw [wN (by omega) (by omega)]; simp
    have hn : l = (pre ++ [c]) ++ r := by rw [h]; simp
    have hacc : ∀ x : CS, (acc ++ [x]).length ≤ (pre ++ [c]).length := fun x => by simp; omega
    have hacc' : acc.length ≤ (pre ++ [c]).length := by simp; omega
    have e126 : ((c.toNat : Int) = 126) = (c = 126) := u8_is c 126
    have e63 : ((c.toNat : Int) = 63) = (c = 63) := u8_is c 63
    have e42 : ((c.toNat : Int) = 42) = (c = 42) := u8_is c 42
    simp only [crit_stepsB.l0, hrd]
    rw [if_pos (by omega), if_pos (by omega), if_pos (by rw [List.length_map]; omega)]
    cases pl with
    | true =>
      rw [if_pos (by first | trivial | rfl)]
      simp only [crit_stepsB.j1]
      rw [if_pos (by first | trivial | rfl), if_pos (by omega), hw, ih (pre ++ [c]) k false _ (by omega) hn (hacc _)]
      simp [stepsL, toC]
    | false =>
      rw [if_neg (by first | exact Bool.false_ne_true | exact not_false)]
      by_cases c1 : c = 126
      · rw [if_pos (by rw [e126]; exact c1)]
        simp only [crit_stepsB.j1]
        rw [if_neg (by first | exact Bool.false_ne_true | exact not_false), if_pos (by rw [e126]; exact c1), hw, ih (pre ++ [c]) k true _ (by omega) hn hacc']
        simp only [stepsL]
        rw [if_pos c1]
      · have n126 : ¬ (c.toNat : Int) = 126 := by rw [e126]; exact c1
        rw [if_neg n126]
        by_cases c2 : c = 63
        · rw [if_pos (by rw [e63]; exact c2)]
          simp only [crit_stepsB.j1]
          rw [if_neg (by first | exact Bool.false_ne_true | exact not_false), if_neg n126, if_pos (by omega), hw, ih (pre ++ [c]) k false _ (by omega) hn (hacc _)]
          simp only [stepsL]
          rw [if_neg c1, if_pos (Or.inl c2)]
          subst c2
          simp [toC]
        · rw [if_neg (by rw [e63]; exact c2)]
          by_cases c3 : c = 42
          · rw [show ((c.toNat : Int) != 42) = false by rw [c3]; rfl]
            simp only [crit_stepsB.j1]
            rw [if_neg (by first | exact Bool.false_ne_true | exact not_false), if_neg n126, if_pos (by omega), hw, ih (pre ++ [c]) k false _ (by omega) hn (hacc _)]
            simp only [stepsL]
            rw [if_neg c1, if_pos (Or.inr c3)]
            subst c3
            simp [toC]
          · rw [show ((c.toNat : Int) != 42) = true by rw [bne_iff_ne]; intro h; rw [e42] at h; exact c3 h]
            simp only [crit_stepsB.j1]
            rw [if_pos (by first | trivial | rfl), if_pos (by omega), hw, ih (pre ++ [c]) k false _ (by omega) hn (hacc _)]
            simp only [stepsL]
            rw [if_neg c1, if_neg (by intro h; exact h.elim c2 c3)]
            simp [toC]
theorem crit_steps_eq (k : Nat) (l : List UInt8) (hl : l.length ≤ 40000000000000) (hk : 2 * l.length + 2 ≤ k) : crit_steps.f k (bl l) = some ((stepsL (foldL l) false).map toC) := by
  unfold crit_steps.f
  rw [value_Fold_eq l (by omega), Option.bind_some, if_pos (by rw [bl_size, foldL_length]; omega), numsOf_bl]
  unfold crit_stepsB.f
  have := crit_stepsB_l0 (foldL l) (by rw [foldL_length]; exact hl) (foldL l) [] k false [] (by rw [foldL_length]; exact hk) rfl (Nat.le_refl _)
  rw [List.length_map]
  simpa using this
theorem fits_eq (p : CS) (c : UInt8) : crit_step_fits.f p.f0 p.f1 p.f2 (c.toNat : Int) = some (fitC p c) := by
  unfold crit_step_fits.f fitC
  cases p.f0 <;> cases p.f1 <;> simp
theorem rdC (p r : List CS) (x : CS) : rd_T41 (p ++ x :: r) (p.length : Int) = x := by simp [rd_T41]
theorem bt_mid (p r : List UInt8) (c : UInt8) : bt (bl (p ++ c :: r)) (p.length : Int) = (c.toNat : Int) := bt_at p r c
theorem crit_Like_B (P : List CS) (S : List UInt8) (hP : P.length ≤ 1000) (hS : S.length ≤ 1000) (W : Nat) (hW : 2003 ≤ W) : ∀ (N k : Nat) (p1 A' P' : List CS) (s1 B' S' : List UInt8),
    (B'.length + S'.length) * W + P'.length + S'.length ≤ N → 4 * N + 4 ≤ k → P = p1 ++ (A' ++ P') → S = s1 ++ (B' ++ S') → GFront rowC fitC A' B' → p1 ≠ [] →
    ∃ b, crit_Like.l0 k (bl S) P ((p1.length + A'.length : Nat) : Int) ((s1.length + B'.length : Nat) : Int) ((p1.length : Int) - 1) (s1.length : Int) = some b ∧ (b = true ↔ ∃ f, gM rowC fitC (A' ++ P') ((B' ++ S').drop f)) := by
  intro N
  induction N with
  | zero =>
    intro k p1 A' P' s1 B' S' hN hk hP' hS' hF hp
    obtain ⟨k, rfl⟩ : ∃ m, k = m + 2 := ⟨k - 2, by omega⟩
    obtain rfl : P' = [] := List.eq_nil_of_length_eq_zero (by omega)
    obtain rfl : S' = [] := List.eq_nil_of_length_eq_zero (by omega)
    refine ⟨true, ?_, fun _ => ⟨0, hF.iff.2 rfl⟩, fun _ => rfl⟩
    have hlP : P.length = p1.length + A'.length := by rw [hP']; simp
    have hlS : S.length = s1.length + B'.length := by rw [hS']; simp
    simp only [crit_Like.l0, bl_size]
    rw [if_neg (by omega), decide_eq_false (by omega)]
    simp only [crit_Like.j1]
    rw [if_neg (by first | exact Bool.false_ne_true | exact not_false)]
  | succ N ih =>
    intro k p1 A' P' s1 B' S' hN hk hP' hS' hF hp
    obtain ⟨k, rfl⟩ : ∃ m, k = m + 4 := ⟨k - 4, by omega⟩
    have hpl : 1 ≤ p1.length := by cases p1 with
      | nil => exact absurd rfl hp
      | cons _ _ => simp
    have hlP : P.length = p1.length + A'.length + P'.length := by rw [hP']; simp; omega
    have hlS : S.length = s1.length + B'.length + S'.length := by rw [hS']; simp; omega
    have hAB := hF.length
    have hgo : ∀ b, (b = true ↔ (P' = [] ∧ S' = [])) → True := fun _ _ => trivial
    -- no way on: the row before takes one more, or nothing is left
    have hback : ¬ gM rowC fitC P' S' → ∃ b, (if ((p1.length : Int) - 1) ≥ 0 then (if (s1.length : Int) < ((bl S).size : Int) then (crit_Like.l0 k (bl S) P (wrap64 (((p1.length : Int) - 1) + 1)) (wrap64 ((s1.length : Int) + 1)) ((p1.length : Int) - 1) (wrap64 ((s1.length : Int) + 1))) else (some false)) else (some false)) = some b ∧ (b = true ↔ ∃ f, gM rowC fitC (A' ++ P') ((B' ++ S').drop f)) := by
      intro hno
      have hno' : ¬ gM rowC fitC (A' ++ P') (B' ++ S') := fun h => hno (hF.iff.1 h)
      rw [if_pos (by omega), bl_size]
      rcases Classical.em (B' ++ S' = []) with hbs | hbs
      · have h0 : B'.length + S'.length = 0 := by rw [← List.length_append, hbs]; rfl
        rw [if_neg (by omega)]
        refine ⟨false, rfl, ⟨fun h => absurd h Bool.false_ne_true, fun h => ?_⟩⟩
        exact absurd h (no_more hno' hbs)
      · obtain ⟨c, R, hbs⟩ := List.exists_cons_of_ne_nil hbs
        have h0 : B'.length + S'.length = R.length + 1 := by rw [← List.length_append, hbs]; rfl
        rw [if_pos (by omega), wN (by omega) (by omega), wN (by omega) (by omega)]
        have hx : (B'.length + S'.length) * W = R.length * W + W := by rw [h0, Nat.succ_mul]
        have hN' : (([] : List UInt8).length + R.length) * W + (A' ++ P').length + R.length ≤ N := by
          rw [List.length_nil, Nat.zero_add, List.length_append]
          rw [hx] at hN
          omega
        obtain ⟨b, hb, hb2⟩ := ih k p1 [] (A' ++ P') (s1 ++ [c]) [] R hN' (by omega) (by rw [hP']; rfl) (by rw [hS', hbs]; simp) GFront.nil hp
        refine ⟨b, ?_, ?_⟩
        · rw [show ((p1.length : Int) - 1) + 1 = ((p1.length + ([] : List CS).length : Nat) : Int) by simp, show ((s1.length : Int) + 1) = (((s1 ++ [c]).length + ([] : List UInt8).length : Nat) : Int) by simp]
          rw [show (((s1 ++ [c]).length : Nat) : Int) = (((s1 ++ [c]).length + ([] : List UInt8).length : Nat) : Int) by simp] at hb
          exact hb
        · rw [hb2]
          rw [one_more (row := rowC) (fit := fitC) (Q := A' ++ P') (T := B' ++ S') hno', hbs]
          simp only [List.nil_append, List.drop_succ_cons]
    cases P' with
    | nil =>
      cases S' with
      | nil =>
        refine ⟨true, ?_, fun _ => ⟨0, hF.iff.2 rfl⟩, fun _ => rfl⟩
        simp only [List.length_nil] at hlP hlS
        simp only [crit_Like.l0, bl_size]
        rw [if_neg (by omega), decide_eq_false (by omega)]
        simp only [crit_Like.j1]
        rw [if_neg (by first | exact Bool.false_ne_true | exact not_false)]
      | cons c S'' =>
        simp only [List.length_nil, List.length_cons] at hlP hlS
        obtain ⟨b, hb, hb2⟩ := hback (fun h => by cases h)
        refine ⟨b, ?_, hb2⟩
        simp only [crit_Like.l0, bl_size]
        rw [if_pos (by omega)]
        simp only [crit_Like.j1]
        rw [if_pos (by first | trivial | rfl), if_neg (by omega)]
        simp only [crit_Like.j2]
        rw [if_neg (by first | exact Bool.false_ne_true | exact not_false), if_neg (by omega)]
        simp only [crit_Like.j3]
        rw [if_neg (by first | exact Bool.false_ne_true | exact not_false)]
        exact hb
    | cons p P'' =>
      simp only [List.length_cons] at hlP
      have hrd : rd_T41 P ((p1.length + A'.length : Nat) : Int) = p := by
        rw [hP', ← List.append_assoc, ← List.length_append]
        exact rdC _ _ _
      have hstart : crit_Like.l0 (k + 4) (bl S) P ((p1.length + A'.length : Nat) : Int) ((s1.length + B'.length : Nat) : Int) ((p1.length : Int) - 1) (s1.length : Int) = crit_Like.j2 (k + 2) (bl S) P ((p1.length + A'.length : Nat) : Int) ((s1.length + B'.length : Nat) : Int) ((p1.length : Int) - 1) (s1.length : Int) p.f1 := by
        have hj1 : crit_Like.j1 (k + 3) (bl S) P ((p1.length + A'.length : Nat) : Int) ((s1.length + B'.length : Nat) : Int) ((p1.length : Int) - 1) (s1.length : Int) true = crit_Like.j2 (k + 2) (bl S) P ((p1.length + A'.length : Nat) : Int) ((s1.length + B'.length : Nat) : Int) ((p1.length : Int) - 1) (s1.length : Int) p.f1 := by
          simp only [crit_Like.j1]
          rw [if_pos (by first | trivial | rfl), if_pos (by omega), if_pos (by omega), hrd]
        rw [← hj1]
        simp only [crit_Like.l0, bl_size]
        by_cases h1 : ((s1.length + B'.length : Nat) : Int) < (S.length : Int)
        · rw [if_pos h1]
        · rw [if_neg h1, decide_eq_true (by omega)]
      rw [hstart]
      simp only [crit_Like.j2]
      cases hrow : p.f1 with
      | true =>
        rw [if_pos (by first | trivial | rfl)]
        have hN' : (([] : List UInt8).length + S'.length) * W + P''.length + S'.length ≤ N := by
          simp only [List.length_nil, List.length_cons] at hN ⊢
          have : (0 + S'.length) * W ≤ (B'.length + S'.length) * W := Nat.mul_le_mul_right _ (by omega)
          omega
        obtain ⟨b, hb, hb2⟩ := ih (k + 1) (p1 ++ A' ++ [p]) [] P'' (s1 ++ B') [] S' hN' (by omega) (by rw [hP']; simp) (by rw [hS']; simp) GFront.nil (by simp)
        refine ⟨b, ?_, ?_⟩
        · rw [wN (by omega) (by omega)]
          have e1 : (((p1 ++ A' ++ [p]).length + ([] : List CS).length : Nat) : Int) = ((p1.length + A'.length : Nat) : Int) + 1 := by simp; omega
          have e2 : (((s1 ++ B').length + ([] : List UInt8).length : Nat) : Int) = ((s1.length + B'.length : Nat) : Int) := by simp
          have e3 : (((p1 ++ A' ++ [p]).length : Nat) : Int) - 1 = ((p1.length + A'.length : Nat) : Int) := by simp; omega
          have e4 : (((s1 ++ B').length : Nat) : Int) = ((s1.length + B'.length : Nat) : Int) := by simp
          rw [e1, e2, e3, e4] at hb
          exact hb
        · rw [hb2, row_again hF (show rowC p = true from hrow)]
          simp only [List.nil_append]
      | false =>
        rw [if_neg (by first | exact Bool.false_ne_true | exact not_false), if_pos (by omega)]
        cases S' with
        | nil =>
          simp only [List.length_nil] at hlS
          obtain ⟨b, hb, hb2⟩ := hback (no_fit (show rowC p = false from hrow) (fun c S'' h => by cases h))
          refine ⟨b, ?_, hb2⟩
          rw [bl_size, if_neg (by omega)]
          simp only [crit_Like.j3]
          rw [if_neg (by first | exact Bool.false_ne_true | exact not_false)]
          exact hb
        | cons c S'' =>
          simp only [List.length_cons] at hlS
          have hbt : bt (bl S) ((s1.length + B'.length : Nat) : Int) = (c.toNat : Int) := by
            rw [hS', ← List.append_assoc, ← List.length_append]
            exact bt_mid _ _ _
          rw [bl_size, if_pos (by omega), if_pos (by omega), if_pos (by omega), hrd, hbt, fits_eq, Option.bind_some]
          simp only [crit_Like.j3]
          cases hfit : fitC p c with
          | true =>
            rw [if_pos (by first | trivial | rfl)]
            have hN' : ((B' ++ [c]).length + S''.length) * W + P''.length + S''.length ≤ N := by
              have e : (B' ++ [c]).length + S''.length = B'.length + (S''.length + 1) := by rw [List.length_append, List.length_singleton]; omega
              rw [e]
              simp only [List.length_cons] at hN
              omega
            obtain ⟨b, hb, hb2⟩ := ih k p1 (A' ++ [p]) P'' s1 (B' ++ [c]) S'' hN' (by omega) (by rw [hP']; simp) (by rw [hS']; simp) (GFront.snoc hF (show rowC p = false from hrow) hfit) hp
            refine ⟨b, ?_, ?_⟩
            · rw [wN (by omega) (by omega), wN (by omega) (by omega)]
              have e1 : ((p1.length + (A' ++ [p]).length : Nat) : Int) = ((p1.length + A'.length : Nat) : Int) + 1 := by simp; omega
              have e2 : ((s1.length + (B' ++ [c]).length : Nat) : Int) = ((s1.length + B'.length : Nat) : Int) + 1 := by simp; omega
              rw [e1, e2] at hb
              exact hb
            · rw [hb2]
              simp only [List.append_assoc, List.cons_append, List.nil_append]
          | false =>
            rw [if_neg (by first | exact Bool.false_ne_true | exact not_false)]
            obtain ⟨b, hb, hb2⟩ := hback (no_fit (show rowC p = false from hrow) (fun c' S3 h => by obtain ⟨rfl, rfl⟩ := List.cons.inj h; exact hfit))
            exact ⟨b, hb, hb2⟩
theorem crit_Like_A (P : List CS) (S : List UInt8) (hP : P.length ≤ 1000) (hS : S.length ≤ 1000) : ∀ (N k : Nat) (A' P' : List CS) (B' S' : List UInt8),
    P'.length + S'.length ≤ N → 4 * N + 8028020 ≤ k → P = A' ++ P' → S = B' ++ S' → GFront rowC fitC A' B' →
    ∃ b, crit_Like.l0 k (bl S) P (A'.length : Int) (B'.length : Int) (-1) 0 = some b ∧ (b = true ↔ gM rowC fitC P' S') := by
  intro N
  induction N with
  | zero =>
    intro k A' P' B' S' hN hk hP' hS' hF
    obtain ⟨k, rfl⟩ : ∃ m, k = m + 2 := ⟨k - 2, by omega⟩
    obtain rfl : P' = [] := List.eq_nil_of_length_eq_zero (by omega)
    obtain rfl : S' = [] := List.eq_nil_of_length_eq_zero (by omega)
    refine ⟨true, ?_, fun _ => rfl, fun _ => rfl⟩
    have hlP : P.length = A'.length := by rw [hP']; simp
    have hlS : S.length = B'.length := by rw [hS']; simp
    simp only [crit_Like.l0, bl_size]
    rw [if_neg (by omega), decide_eq_false (by omega)]
    simp only [crit_Like.j1]
    rw [if_neg (by first | exact Bool.false_ne_true | exact not_false)]
  | succ N ih =>
    intro k A' P' B' S' hN hk hP' hS' hF
    obtain ⟨k, rfl⟩ : ∃ m, k = m + 4 := ⟨k - 4, by omega⟩
    have hlP : P.length = A'.length + P'.length := by rw [hP']; simp
    have hlS : S.length = B'.length + S'.length := by rw [hS']; simp
    cases P' with
    | nil =>
      cases S' with
      | nil =>
        refine ⟨true, ?_, fun _ => rfl, fun _ => rfl⟩
        simp only [List.length_nil] at hlP hlS
        simp only [crit_Like.l0, bl_size]
        rw [if_neg (by omega), decide_eq_false (by omega)]
        simp only [crit_Like.j1]
        rw [if_neg (by first | exact Bool.false_ne_true | exact not_false)]
      | cons c S'' =>
        simp only [List.length_nil, List.length_cons] at hlP hlS
        refine ⟨false, ?_, fun h => absurd h Bool.false_ne_true, fun h => by cases h⟩
        simp only [crit_Like.l0, bl_size]
        rw [if_pos (by omega)]
        simp only [crit_Like.j1]
        rw [if_pos (by first | trivial | rfl), if_neg (by omega)]
        simp only [crit_Like.j2]
        rw [if_neg (by first | exact Bool.false_ne_true | exact not_false), if_neg (by omega)]
        simp only [crit_Like.j3]
        rw [if_neg (by first | exact Bool.false_ne_true | exact not_false), if_neg (by decide)]
    | cons p P'' =>
      simp only [List.length_cons] at hlP
      have hrd : rd_T41 P (A'.length : Int) = p := by
        rw [hP']
        exact rdC _ _ _
      have hstart : crit_Like.l0 (k + 4) (bl S) P (A'.length : Int) (B'.length : Int) (-1) 0 = crit_Like.j2 (k + 2) (bl S) P (A'.length : Int) (B'.length : Int) (-1) 0 p.f1 := by
        have hj1 : crit_Like.j1 (k + 3) (bl S) P (A'.length : Int) (B'.length : Int) (-1) 0 true = crit_Like.j2 (k + 2) (bl S) P (A'.length : Int) (B'.length : Int) (-1) 0 p.f1 := by
          simp only [crit_Like.j1]
          rw [if_pos (by first | trivial | rfl), if_pos (by omega), if_pos (by omega), hrd]
        rw [← hj1]
        simp only [crit_Like.l0, bl_size]
        by_cases h1 : (B'.length : Int) < (S.length : Int)
        · rw [if_pos h1]
        · rw [if_neg h1, decide_eq_true (by omega)]
      rw [hstart]
      simp only [crit_Like.j2]
      cases hrow : p.f1 with
      | true =>
        rw [if_pos (by first | trivial | rfl)]
        obtain ⟨b, hb, hb2⟩ := crit_Like_B P S hP hS 2003 (by omega) 2007003 (k + 1) (A' ++ [p]) [] P'' B' [] S' (by
            rw [List.length_nil]
            omega) (by omega) (by rw [hP']; simp) (by rw [hS']; simp) GFront.nil (by simp)
        refine ⟨b, ?_, ?_⟩
        · rw [wN (by omega) (by omega)]
          have e1 : (((A' ++ [p]).length + ([] : List CS).length : Nat) : Int) = (A'.length : Int) + 1 := by simp
          have e2 : ((B'.length + ([] : List UInt8).length : Nat) : Int) = (B'.length : Int) := by simp
          have e3 : (((A' ++ [p]).length : Nat) : Int) - 1 = (A'.length : Int) := by simp
          rw [e1, e2, e3] at hb
          exact hb
        · rw [hb2, gM_row (show rowC p = true from hrow)]
          simp only [List.nil_append]
      | false =>
        rw [if_neg (by first | exact Bool.false_ne_true | exact not_false), if_pos (by omega)]
        cases S' with
        | nil =>
          simp only [List.length_nil] at hlS
          refine ⟨false, ?_, fun h => absurd h Bool.false_ne_true, fun h => absurd h (no_fit (show rowC p = false from hrow) (fun c S'' h => by cases h))⟩
          rw [bl_size, if_neg (by omega)]
          simp only [crit_Like.j3]
          rw [if_neg (by first | exact Bool.false_ne_true | exact not_false), if_neg (by decide)]
        | cons c S'' =>
          simp only [List.length_cons] at hlS
          have hbt : bt (bl S) (B'.length : Int) = (c.toNat : Int) := by
            rw [hS']
            exact bt_mid _ _ _
          rw [bl_size, if_pos (by omega), if_pos (by omega), if_pos (by omega), hrd, hbt, fits_eq, Option.bind_some]
          simp only [crit_Like.j3]
          cases hfit : fitC p c with
          | true =>
            rw [if_pos (by first | trivial | rfl)]
            obtain ⟨b, hb, hb2⟩ := ih k (A' ++ [p]) P'' (B' ++ [c]) S'' (by simp only [List.length_cons] at hN; omega) (by omega) (by rw [hP']; simp) (by rw [hS']; simp) (GFront.snoc hF (show rowC p = false from hrow) hfit)
            refine ⟨b, ?_, ?_⟩
            · rw [wN (by omega) (by omega), wN (by omega) (by omega)]
              have e1 : (((A' ++ [p]).length : Nat) : Int) = (A'.length : Int) + 1 := by simp
              have e2 : (((B' ++ [c]).length : Nat) : Int) = (B'.length : Int) + 1 := by simp
              rw [e1, e2] at hb
              exact hb
            · rw [hb2, gM_one (show rowC p = false from hrow)]
              exact ⟨fun h => ⟨c, S'', rfl, hfit, h⟩, fun ⟨c', s', e, _, h⟩ => by obtain ⟨rfl, rfl⟩ := List.cons.inj e; exact h⟩
          | false =>
            rw [if_neg (by first | exact Bool.false_ne_true | exact not_false), if_neg (by decide)]
            exact ⟨false, rfl, fun h => absurd h Bool.false_ne_true, fun h => absurd h (no_fit (show rowC p = false from hrow) (fun c' S3 h => by obtain ⟨rfl, rfl⟩ := List.cons.inj h; exact hfit))⟩
def likeP (p s : List UInt8) : Prop := gM rowC fitC ((stepsL (foldL p) false).map toC) (foldL s)
theorem crit_Like_eq (k : Nat) (hk : 8100000 ≤ k) (p s : List UInt8) (hp : p.length ≤ 900) (hs : s.length ≤ 900) : ∃ b, crit_Like.f k (bl p) (bl s) = some b ∧ (b = true ↔ likeP p s) := by
  unfold crit_Like.f likeP
  have hl := stepsL_length (foldL p) false
  rw [foldL_length] at hl
  rw [crit_steps_eq k p (by omega) (by omega), Option.bind_some, value_Fold_eq s (by omega), Option.bind_some]
  exact crit_Like_A _ (foldL s) (by rw [List.length_map]; omega) (by rw [foldL_length]; omega) 1901 k [] _ [] _ (by rw [List.length_map, foldL_length]; omega) (by omega) rfl rfl GFront.nil
def wildB (l : List (Int × Int)) : Bool := l.any fun p => p.1 == 63 || p.1 == 42
theorem crit_Wild_l0 (P : List (Int × Int)) (hP : P.length ≤ 40000000000001) : ∀ (r pre : List (Int × Int)) (k : Nat), r.length + 1 ≤ k → P = pre ++ r →
    crit_Wild.l0 k (P.map toC) ((P.map toC).length : Int) (pre.length : Int) = some (wildB r) := by
  intro r
  induction r with
  | nil =>
    intro pre k hk h
    obtain ⟨k, rfl⟩ : ∃ m, k = m + 1 := ⟨k - 1, by omega⟩
    simp only [crit_Wild.l0, List.length_map]
    rw [if_neg (by rw [h]; simp)]
    rfl
  | cons x r ih =>
    intro pre k hk h
    simp only [List.length_cons] at hk
    obtain ⟨k, rfl⟩ : ∃ m, k = m + 1 := ⟨k - 1, by omega⟩
    have hlen : P.length = pre.length + r.length + 1 := by rw [h]; simp; omega
    have hrd : rd_T41 (P.map toC) (pre.length : Int) = toC x := by
      rw [h, List.map_append, List.map_cons]
      have := rdC (pre.map toC) (r.map toC) (toC x)
      rw [List.length_map] at this
      exact this
    have := ih (pre ++ [x]) k (by omega) (by rw [h]; simp)
    rw [List.length_map, show (((pre ++ [x]).length : Nat) : Int) = (pre.length : Int) + 1 by simp] at this
    simp only [crit_Wild.l0, List.length_map, hrd]
    rw [if_pos (by omega), if_pos (by omega), if_pos (by omega), wN (by omega) (by omega), this]
    unfold wildB toC
    cases h63 : x.1 == 63 <;> cases h42 : x.1 == 42 <;> simp [h63, h42]
theorem crit_Wild_eq (k : Nat) (p : List UInt8) (hp : p.length ≤ 40000000000000) (hk : 2 * p.length + 2 ≤ k) : crit_Wild.f k (bl p) = some (wildB (stepsL (foldL p) false)) := by
  unfold crit_Wild.f
  rw [crit_steps_eq k p hp hk, Option.bind_some]
  have hl := stepsL_length (foldL p) false
  rw [foldL_length] at hl
  exact crit_Wild_l0 _ (by omega) _ [] k (by omega) rfl
end Go.Proofs.YtngdggmlfoogcaaDoor.Pr
end
section
namespace Go.Proofs.YtngdggmlfoogcaaDoor.Pr
set_option linter.unusedVariables false
set_option linter.unusedSimpArgs false
open Go.RowKit Go.Proofs.YtngdggmlfoogcaaDoorW.PrintWords Go.Proofs.YtngdggmlfoogcaaDoorW.PrintMore
def quietB (s : List UInt8) : Bool := s.all fun c => !(c == 63 || c == 42 || c == 126)
theorem up_quiet (c : UInt8) (h : (!(c == 63 || c == 42 || c == 126)) = true) : (!(up c == 63 || up c == 42 || up c == 126)) = true := by
  by_cases g : 97 ≤ c.toNat ∧ c.toNat ≤ 122
  · have := up_le c g.1 g.2
    have e1 : up c ≠ 63 := by intro e; rw [e] at this; have : ((63 : UInt8).toNat : Int) = 63 := rfl; omega
    have e2 : up c ≠ 42 := by intro e; rw [e] at this; have : ((42 : UInt8).toNat : Int) = 42 := rfl; omega
    have e3 : up c ≠ 126 := by intro e; rw [e] at this; have : ((126 : UInt8).toNat : Int) = 126 := rfl; omega
    simp [e1, e2, e3]
  · rw [up_no c g]; exact h
theorem quiet_fold {s : List UInt8} (h : quietB s = true) : quietB (foldL s) = true := by
  unfold quietB foldL at *
  rw [List.all_map]
  rw [List.all_eq_true] at h ⊢
  exact fun c hc => up_quiet c (h c hc)
theorem steps_quiet : ∀ {l : List UInt8}, quietB l = true → stepsL l false = l.map fun c => (0, (c.toNat : Int))
  | [], _ => rfl
  | c :: r, h => by
    simp only [quietB, List.all_cons, Bool.and_eq_true] at h
    have hc := h.1
    simp only [Bool.not_eq_true', Bool.or_eq_false_iff, beq_eq_false_iff_ne] at hc
    simp only [stepsL]
    rw [if_neg hc.2, if_neg (fun hh => hh.elim hc.1.1 hc.1.2), steps_quiet (l := r) h.2]
    rfl
theorem gM_plain : ∀ (l m : List UInt8), gM rowC fitC ((l.map fun c => ((0 : Int), (c.toNat : Int))).map toC) m ↔ l = m
  | [], m => ⟨fun h => (show m = [] from h).symm, fun h => h.symm⟩
  | c :: r, m => by
    simp only [List.map_cons]
    rw [gM_one (show rowC (toC (0, (c.toNat : Int))) = false from rfl)]
    constructor
    · rintro ⟨d, s, rfl, hf, hm⟩
      have h1 := (gM_plain r s).1 hm
      have : c = d := by
        unfold fitC toC at hf
        simp only [Bool.or_eq_true, Bool.and_eq_true, beq_iff_eq] at hf
        rcases hf with hf | hf
        · exact absurd hf (by decide)
        · exact (u8_is c d).mp hf.2
      rw [this, h1]
    · rintro rfl
      refine ⟨c, r, rfl, ?_, (gM_plain r r).2 rfl⟩
      unfold fitC toC
      simp
theorem like_quiet {p s : List UInt8} (h : quietB p = true) : likeP p s ↔ foldL p = foldL s := by
  unfold likeP
  rw [steps_quiet (quiet_fold h)]
  exact gM_plain _ _
end Go.Proofs.YtngdggmlfoogcaaDoor.Pr
end
section
namespace Go.Proofs.YtngdggmlfoogcaaDoor.Pr
set_option linter.unusedVariables false
set_option linter.unusedSimpArgs false
open Go.RowKit Go.Proofs.YtngdggmlfoogcaaDoorW.PrintWords Go.Proofs.YtngdggmlfoogcaaDoorW.PrintMore
theorem crit_lives9 : foolscaplaw13_lives.f 8100009 = some true := by decide +kernel
theorem crit_lives8 : foolscaplaw13_lives.f 8100008 = some true := by decide +kernel
theorem quiet_l0 : ∀ (r pre : List UInt8) (k : Nat), r.length + 1 ≤ k → (pre ++ r).length ≤ 1000000 → foolscaplaw13_quiet.l0 k (bl (pre ++ r)) (pre.length : Int) = some (quietB r) := by
  intro r
  induction r with
  | nil =>
    intro pre k hk hl
    obtain ⟨k, rfl⟩ : ∃ m, k = m + 1 := ⟨k - 1, by omega⟩
    simp only [foolscaplaw13_quiet.l0, bl_size]
    rw [if_neg (by simp)]
    rfl
  | cons c r ih =>
    intro pre k hk hl
    simp only [List.length_cons] at hk
    obtain ⟨k, rfl⟩ : ∃ m, k = m + 1 := ⟨k - 1, by omega⟩
    have hlen : (pre ++ c :: r).length = pre.length + r.length + 1 := by simp; omega
    have := ih (pre ++ [c]) k (by omega) (by rw [List.append_assoc]; exact hl)
    rw [List.append_assoc, show (((pre ++ [c]).length : Nat) : Int) = (pre.length : Int) + 1 by simp] at this
    simp only [foolscaplaw13_quiet.l0, bl_size]
    rw [bt_mid, if_pos (by omega), if_pos (by omega), wN (by omega) (by omega)]
    have e1 : ((c.toNat : Int) = 63) ↔ c = 63 := iff_of_eq (u8_is c 63)
    have e2 : ((c.toNat : Int) = 42) ↔ c = 42 := iff_of_eq (u8_is c 42)
    have e3 : ((c.toNat : Int) = 126) ↔ c = 126 := iff_of_eq (u8_is c 126)
    by_cases h1 : c = 63
    · rw [if_pos (by rw [h1]; rfl)]; unfold quietB; simp [h1]
    rw [if_neg (fun h => h1 (e1.mp h))]
    by_cases h2 : c = 42
    · rw [if_pos (by rw [h2]; rfl)]; unfold quietB; simp [h2]
    rw [if_neg (fun h => h2 (e2.mp h))]
    by_cases h3 : c = 126
    · rw [if_pos (by rw [h3]; rfl)]; unfold quietB; simp [h3]
    rw [if_neg (fun h => h3 (e3.mp h))]
    simp only [List.cons_append, List.nil_append] at this
    rw [this]
    unfold quietB
    simp [h1, h2, h3]
theorem quiet_eq (k : Nat) (s : List UInt8) (hs : s.length ≤ 1000000) (hk : s.length + 1 ≤ k) : foolscaplaw13_quiet.f k (bl s) = some (quietB s) := quiet_l0 s [] k hk hs
theorem like_all (s : List UInt8) : likeP [42] s := (gM_row rfl).2 ⟨(foldL s).length, by rw [List.drop_length]; rfl⟩
theorem foldL_len (s : List UInt8) : (foldL s).length = s.length := by unfold foldL; exact List.length_map _
theorem like_one (s : List UInt8) : likeP [63] s ↔ s.length = 1 := by
  rw [← foldL_len]
  unfold likeP
  show gM rowC fitC [toC (63, 63)] (foldL s) ↔ _
  rw [gM_one rfl]
  constructor
  · rintro ⟨c, r, h, _, hr⟩
    have hr : r = [] := hr
    rw [h, hr]; rfl
  · intro h
    cases hs : foldL s with
    | nil => rw [hs] at h; cases h
    | cons c r =>
      rw [hs] at h
      cases r with
      | nil => exact ⟨c, [], rfl, rfl, rfl⟩
      | cons d r => simp at h
theorem like_some (s : List UInt8) : likeP [63, 42] s ↔ 0 < s.length := by
  rw [← foldL_len]
  unfold likeP
  show gM rowC fitC (toC (63, 63) :: [toC (42, 42)]) (foldL s) ↔ _
  rw [gM_one rfl]
  constructor
  · rintro ⟨c, r, h, _, hr⟩
    rw [h]; simp
  · intro h
    cases hs : foldL s with
    | nil => rw [hs] at h; cases h
    | cons c r => exact ⟨c, r, rfl, rfl, (gM_row rfl).2 ⟨r.length, by rw [List.drop_length]; rfl⟩⟩
theorem quiet_tame {p : List UInt8} (h : quietB p = true) : wildB (stepsL (foldL p) false) = false := by
  rw [steps_quiet (quiet_fold h)]
  unfold wildB
  rw [List.any_map, List.any_eq_false]
  intro c _
  simp
theorem CritQuiet_pure (a0 : ByteArray) (a1 : ByteArray) : foolscaplaw13_CritQuiet.f 8100010 a0 a1 = some true := by
  rw [← bl_of a0, ← bl_of a1]
  generalize a0.data.toList = p
  generalize a1.data.toList = s
  have hyes : foolscaplaw13_CritQuiet.j0 8100010 (bl p) (bl s) true = some true := by
    rw [show (8100010 : Nat) = 8100009 + 1 from rfl]
    simp only [foolscaplaw13_CritQuiet.j0]
    rw [if_pos (by first | trivial | rfl), crit_lives9, Option.bind_some]
  unfold foolscaplaw13_CritQuiet.f
  simp only [bl_size]
  by_cases c0 : (p.length : Int) > 200
  · rw [if_pos c0]; exact hyes
  rw [if_neg c0]
  by_cases c1 : (s.length : Int) > 200
  · rw [decide_eq_true c1]; exact hyes
  rw [decide_eq_false c1]
  have hj1 : foolscaplaw13_CritQuiet.j1 8100009 (bl s) false = some true := by
    rw [show (8100009 : Nat) = 8100008 + 1 from rfl]
    simp only [foolscaplaw13_CritQuiet.j1]
    have h42 : (⟨#[42]⟩ : ByteArray) = bl [42] := rfl
    have h63 : (⟨#[63]⟩ : ByteArray) = bl [63] := rfl
    have h634 : (⟨#[63, 42]⟩ : ByteArray) = bl [63, 42] := rfl
    obtain ⟨b1, k1, hb1⟩ := crit_Like_eq 8100008 (by decide) [42] s (by decide) (by omega)
    obtain ⟨b2, k2, hb2⟩ := crit_Like_eq 8100008 (by decide) [63] s (by decide) (by omega)
    obtain ⟨b3, k3, hb3⟩ := crit_Like_eq 8100008 (by decide) [63, 42] s (by decide) (by omega)
    obtain rfl : b1 = true := hb1.2 (like_all s)
    have q2 : (b2 == ((s.length : Int) == 1)) = true := by
      rw [beq_iff_eq, Bool.eq_iff_iff, hb2, like_one, beq_iff_eq]
      omega
    have q3 : (b3 == decide ((s.length : Int) > 0)) = true := by
      rw [beq_iff_eq, Bool.eq_iff_iff, hb3, like_some, decide_eq_true_iff]
      omega
    simp only [bl_size]
    rw [if_neg (by first | exact Bool.false_ne_true | exact not_false), h42, h63, h634, k1, Option.bind_some, if_pos (by first | trivial | rfl), k2, Option.bind_some, if_pos q2, k3, Option.bind_some, if_pos q3, crit_lives8, Option.bind_some]
  rw [show (8100010 : Nat) = 8100009 + 1 from rfl]
  simp only [foolscaplaw13_CritQuiet.j0]
  rw [if_neg (by first | exact Bool.false_ne_true | exact not_false), quiet_eq 8100009 p (by omega) (by omega), Option.bind_some]
  by_cases hq : quietB p = true
  · obtain ⟨b1, k1, hb1⟩ := crit_Like_eq 8100009 (by decide) p s (by omega) (by omega)
    rw [if_pos hq, crit_Wild_eq 8100009 p (by omega) (by omega), Option.bind_some, quiet_tame hq, if_neg (by first | exact Bool.false_ne_true | exact not_false), k1, Option.bind_some, value_Fold_eq p (by omega), Option.bind_some, value_Fold_eq s (by omega), Option.bind_some, bl_toList, bl_toList]
    have : (b1 != (foldL p == foldL s)) = false := by
      rw [bne_eq_false_iff_eq, Bool.eq_iff_iff, hb1, like_quiet hq, beq_iff_eq]
    rw [this]
    exact hj1
  · rw [if_neg hq]; exact hj1
theorem CritQuiet_walk (a0 : ByteArray) (a1 : ByteArray) (w : World) (z0 : a0.size ≤ 140737488351232) (z1 : a1.size ≤ 140737488351232) (hL : Aside0 (LaidW w)) :
    Calls Tryd.prog 5 #[.string a0, .string a1] w fun e w' => e = .returned (.bool true) ∧ Below w.heap.size w w' :=
  foolscaplaw13_CritQuiet.calls 8100010 a0 a1 true w (CritQuiet_pure a0 a1)
end Go.Proofs.YtngdggmlfoogcaaDoor.Pr
end
