/-
  Lemmas for the law LexScansLexPairs.
-/
import Derived.Test.YtmppnobldhhpjaaGreatDoorSLexScansLexPairs7
import Derived.Test.YtmppnobldhhpjaaGreatDoorSLexScansLexPairs8
import Derived.Test.YtmppnobldhhpjaaGreatDoorSLexScansLexPairs10
import Derived.Test.YtmppnobldhhpjaaGreatDoorSLexScansLexPairs11
import Derived.Laws.BytesArg
import Derived.Lib.IndexLaws
import Derived.Lib.ItoaNum
import Derived.Lib.ParseIntB
import Derived.Lib.Repeat
import Derived.Lib.SlTrimSet
import Derived.Lib.Strings
import Derived.WalkKit
section
namespace Go.Proofs.YtmppnobldhhpjaaGreatDoor.Pr
set_option linter.unusedVariables false
def bl (l : List UInt8) : ByteArray := ⟨l.toArray⟩
theorem bl_def (l : List UInt8) : (⟨l.toArray⟩ : ByteArray) = bl l := rfl
theorem bl_append (a b : List UInt8) : bl a ++ bl b = bl (a ++ b) := by apply ByteArray.ext; simp [bl]
theorem bl_size (a : List UInt8) : (bl a).size = a.length := by simp [bl, ByteArray.size]
theorem bl_extract (a : List UInt8) (i j : Nat) : (bl a).extract i j = bl ((a.take j).drop i) := by
  apply ByteArray.ext; simp [bl, ByteArray.data_extract, List.drop_take]
theorem bl_toList (a : List UInt8) : (bl a).toList = a := by rw [Lib.toList_data]; simp [bl]
theorem bl_data (a : List UInt8) : (bl a).data.toList = a := by simp [bl]
theorem bl_of (s : ByteArray) : bl s.data.toList = s := by apply ByteArray.ext; simp [bl]
theorem bl_inj {a b : List UInt8} (h : bl a = bl b) : a = b := by have := congrArg ByteArray.toList h; rwa [bl_toList, bl_toList] at this
end Go.Proofs.YtmppnobldhhpjaaGreatDoor.Pr
namespace Go.Proofs.YtmppnobldhhpjaaGreatDoor.Pr
set_option linter.unusedVariables false
open Go.RowKit Go.Proofs.YtmppnobldhhpjaaGreatDoorW.PrintWords Go.Proofs.YtmppnobldhhpjaaGreatDoorW.PrintMore
end Go.Proofs.YtmppnobldhhpjaaGreatDoor.Pr
namespace Go.Proofs.YtmppnobldhhpjaaGreatDoor.Pr
set_option linter.unusedVariables false
set_option linter.unusedSimpArgs false
def dg (b : UInt8) : Bool := decide (48 ≤ b.toNat) && decide (b.toNat ≤ 57)
theorem dg_iff (b : UInt8) : dg b = true ↔ 48 ≤ b.toNat ∧ b.toNat ≤ 57 := by simp [dg]
def dvl : List UInt8 → Nat → Nat
  | [], acc => acc
  | c :: r, acc => dvl r (10 * acc + (c.toNat - 48))
def dval (acc : Nat) (l : List UInt8) : Nat := dvl l acc
theorem dvl_cons (a : Nat) (c : UInt8) (r : List UInt8) : dvl (c :: r) a = dvl r (10 * a + (c.toNat - 48)) := rfl
theorem dval_cons (a : Nat) (c : UInt8) (r : List UInt8) : dval a (c :: r) = dval (10 * a + (c.toNat - 48)) r := by unfold dval; exact dvl_cons a c r
theorem dval_nil (a : Nat) : dval a [] = a := rfl
theorem dval_append (l m : List UInt8) : ∀ a, dval a (l ++ m) = dval (dval a l) m := by
  induction l with
  | nil => intro a; rfl
  | cons c r ih => intro a; rw [List.cons_append, dval_cons, dval_cons]; exact ih _
theorem dval_ge (l : List UInt8) : ∀ a, a ≤ dval a l := by
  induction l with
  | nil => intro a; exact Nat.le_refl _
  | cons c r ih => intro a; have := ih (10 * a + (c.toNat - 48)); simp only [dval_cons]; omega
theorem dval_add (l : List UInt8) : ∀ a, dval a l = a * 10 ^ l.length + dval 0 l := by
  induction l with
  | nil => intro a; simp [dval_nil]
  | cons c r ih =>
    intro a
    simp only [dval_cons, List.length_cons]
    rw [ih (10 * a + (c.toNat - 48)), ih (10 * 0 + (c.toNat - 48)), Nat.pow_succ, Nat.add_mul, Nat.add_mul, show 10 * a * 10 ^ r.length = a * (10 ^ r.length * 10) by rw [Nat.mul_comm 10 a, Nat.mul_assoc, Nat.mul_comm 10 (10 ^ r.length)]]
    omega
theorem dval_lt (l : List UInt8) (h : l.all dg = true) : dval 0 l < 10 ^ l.length := by
  induction l with
  | nil => simp [dval_nil]
  | cons c r ih =>
    simp only [List.all_cons, Bool.and_eq_true] at h
    have h1 := ih h.2
    have h2 := (dg_iff c).1 h.1
    simp only [dval_cons, List.length_cons]
    rw [dval_add r, Nat.pow_succ]
    have h3 : (10 * 0 + (c.toNat - 48)) * 10 ^ r.length ≤ 9 * 10 ^ r.length := Nat.mul_le_mul_right _ (by omega)
    omega
theorem dval_snoc (l : List UInt8) (c : UInt8) (a : Nat) : dval a (l ++ [c]) = 10 * dval a l + (c.toNat - 48) := by rw [dval_append]; rfl
theorem dval_lead (l : List UInt8) : dval 0 (l.dropWhile ([48].contains ·)) = dval 0 l := by
  induction l with
  | nil => rfl
  | cons c r ih =>
    rw [List.dropWhile_cons]
    split
    · rename_i h
      rw [Lib.contains_one] at h
      rw [ih, eq_of_beq h]
      rfl
    · rfl
theorem dval_zeros (n : Nat) : ∀ a, dval a (List.replicate n 48) = a * 10 ^ n := by
  induction n with
  | zero => intro a; simp [dval_nil]
  | succ n ih =>
    intro a
    rw [List.replicate_succ]
    simp only [dval_cons]
    rw [ih, Nat.pow_succ, show (48 : UInt8).toNat - 48 = 0 from rfl, Nat.add_zero, Nat.mul_comm 10 a, Nat.mul_assoc, Nat.mul_comm 10]
theorem dval_big (l : List UInt8) (h : l.all dg = true) (h0 : l.head? ≠ some 48) (hl : l ≠ []) : 10 ^ (l.length - 1) ≤ dval 0 l := by
  cases l with
  | nil => exact absurd rfl hl
  | cons c r =>
    simp only [List.all_cons, Bool.and_eq_true] at h
    have h2 := (dg_iff c).1 h.1
    have h3 : c.toNat ≠ 48 := fun e => h0 (by simp only [List.head?_cons, Option.some.injEq]; exact UInt8.toNat_inj.1 e)
    simp only [dval_cons, List.length_cons, Nat.add_sub_cancel]
    rw [dval_add r]
    have h3 : 1 * 10 ^ r.length ≤ (10 * 0 + (c.toNat - 48)) * 10 ^ r.length := Nat.mul_le_mul_right _ (by omega)
    omega
theorem dropWhile_head {p : UInt8 → Bool} : ∀ {l : List UInt8} {c : UInt8} {r : List UInt8}, l.dropWhile p = c :: r → p c = false := by
  intro l
  induction l with
  | nil => intro c r h; simp at h
  | cons b l ih =>
    intro c r h
    rw [List.dropWhile_cons] at h
    split at h
    · exact ih h
    · rename_i hb
      injection h with h1 h2
      rw [← h1]; simpa using hb
theorem dropWhile_nil {p : UInt8 → Bool} : ∀ {l : List UInt8}, l.dropWhile p = [] ↔ l.all p = true := by
  intro l
  induction l with
  | nil => simp
  | cons b l ih =>
    rw [List.dropWhile_cons]
    split
    · rename_i hb; rw [ih]; simp [hb]
    · rename_i hb; simp [hb]
theorem trimS_nil (l cs : List UInt8) : Lib.trimS l cs = [] ↔ l.all (cs.contains ·) = true := by
  unfold Lib.trimS Lib.trimLeftS Lib.trimRightS
  rw [dropWhile_nil]
  constructor
  · intro h
    cases hd : l.reverse.dropWhile (cs.contains ·) with
    | nil => have := dropWhile_nil.1 hd; rwa [List.all_reverse] at this
    | cons c r =>
      rw [hd, List.all_reverse] at h
      simp only [List.all_cons, Bool.and_eq_true] at h
      have := dropWhile_head hd
      rw [this] at h
      exact absurd h.1 (by decide)
  · intro h
    have : l.reverse.dropWhile (cs.contains ·) = [] := dropWhile_nil.2 (by rwa [List.all_reverse])
    rw [this]; rfl
theorem digits_contains (b : UInt8) : ([48, 49, 50, 51, 52, 53, 54, 55, 56, 57] : List UInt8).contains b = dg b := by
  rw [Bool.eq_iff_iff, dg_iff]
  simp only [List.contains_cons, List.contains_nil, Bool.or_eq_true, beq_iff_eq, Bool.false_eq_true, or_false, ← UInt8.toNat_inj]
  simp only [UInt8.reduceToNat]
  omega
theorem parseUintM_ok (l : List UInt8) (h : l.all dg = true) : ∀ acc, dval acc l ≤ 2 ^ 64 - 1 → Lib.parseUintM (2 ^ 64 - 1) acc l = .ok (dval acc l) := by
  induction l with
  | nil => intro acc ha; rfl
  | cons c r ih =>
    intro acc ha
    simp only [List.all_cons, Bool.and_eq_true] at h
    have h2 := (dg_iff c).1 h.1
    simp only [dval_cons] at ha ⊢
    have h3 := dval_ge r (10 * acc + (c.toNat - 48))
    unfold Lib.parseUintM
    rw [if_pos h2, if_neg (by omega), if_neg (by omega), Nat.mul_comm acc 10]
    exact ih h.2 _ ha
theorem parseUintB_ok (l : List UInt8) (h : l.all dg = true) (h0 : l ≠ []) (hb : dval 0 l ≤ 2 ^ 64 - 1) : Lib.parseUintB 64 l = .ok (dval 0 l) := by
  unfold Lib.parseUintB
  rw [if_neg h0]
  exact parseUintM_ok l h 0 hb
def numFin (minus : Bool) (W F : Nat) : Int × Int := if 1000000000000000000 < W * 1000000 + F then (0, 3) else (if minus = true then -((W * 1000000 + F : Nat) : Int) else ((W * 1000000 + F : Nat) : Int), 0)
def frac (p : List UInt8) : Nat := dval 0 (p ++ List.replicate (6 - p.length) 48)
def numR (minus : Bool) (w r : List UInt8) : Int × Int :=
  if w = [] then (0, 5) else match r with
  | [] => numFin minus (dval 0 w) 0
  | c :: p => if c = 46 ∧ p ≠ [] ∧ p.length ≤ 6 ∧ p.all dg = true then numFin minus (dval 0 w) (frac p) else (0, 5)
def numT (minus : Bool) (t : List UInt8) : Int × Int := numR minus (t.takeWhile dg) (t.dropWhile dg)
def numL (l : List UInt8) : Int × Int := if 40 < l.length then (0, 5) else if l.head? = some 45 then numT true l.tail else numT false l
theorem takeWhile_all (l : List UInt8) : (l.takeWhile dg).all dg = true := by
  induction l with
  | nil => rfl
  | cons b l ih => rw [List.takeWhile_cons]; split <;> simp_all
theorem take_of_all {w r : List UInt8} (h : w.all dg = true) (h2 : ∀ c, r.head? = some c → dg c = false) : (w ++ r).takeWhile dg = w ∧ (w ++ r).dropWhile dg = r := by
  induction w with
  | nil =>
    cases r with
    | nil => exact ⟨rfl, rfl⟩
    | cons c r => simp [h2 c rfl]
  | cons b w ih =>
    simp only [List.all_cons, Bool.and_eq_true] at h
    simp [h.1, ih h.2]
theorem numT_of {w r : List UInt8} (m : Bool) (h : w.all dg = true) (h2 : ∀ c, r.head? = some c → dg c = false) : numT m (w ++ r) = numR m w r := by
  unfold numT
  rw [(take_of_all h h2).1, (take_of_all h h2).2]
theorem numT_bad (m : Bool) {w r : List UInt8} (h : ¬ w.all dg = true) (h2 : (46 : UInt8) ∉ w) : numT m (w ++ r) = (0, 5) := by
  unfold numT numR
  cases hd : w.dropWhile dg with
  | nil => exact absurd (dropWhile_nil.1 hd) h
  | cons c q =>
    have hc := dropWhile_head hd
    have hw : w = w.takeWhile dg ++ c :: q := by rw [← hd, List.takeWhile_append_dropWhile]
    have h46 : c ≠ 46 := by
      intro e
      apply h2
      rw [hw, e]
      simp
    have hb : ((w ++ r).takeWhile dg = w.takeWhile dg) ∧ (w ++ r).dropWhile dg = c :: (q ++ r) := by
      have := take_of_all (w := w.takeWhile dg) (r := c :: (q ++ r)) (takeWhile_all w) (by intro x hx; simp only [List.head?_cons, Option.some.injEq] at hx; rw [← hx]; exact hc)
      have he : w ++ r = w.takeWhile dg ++ c :: (q ++ r) := by
        conv => lhs; rw [hw]
        simp
      rw [he]; exact this
    rw [hb.1, hb.2]
    split
    · rfl
    · simp only []
      rw [if_neg (by intro h; exact h46 h.1)]
end Go.Proofs.YtmppnobldhhpjaaGreatDoor.Pr
namespace Go.Proofs.YtmppnobldhhpjaaGreatDoor.Pr
set_option linter.unusedVariables false
set_option linter.unusedSimpArgs false
end Go.Proofs.YtmppnobldhhpjaaGreatDoor.Pr
namespace Go.Proofs.YtmppnobldhhpjaaGreatDoor.Pr
set_option linter.unusedVariables false
set_option linter.unusedSimpArgs false
open Go.RowKit Go.Proofs.YtmppnobldhhpjaaGreatDoorW.PrintWords Go.Proofs.YtmppnobldhhpjaaGreatDoorW.PrintMore
theorem wN {a : Int} (h0 : -9223372036854775808 ≤ a) (h1 : a ≤ 9223372036854775807) : wrap64 a = a := by unfold wrap64; omega
theorem num_digits_eq (l : List UInt8) (hl : l.length ≤ 1000) : num_digits.f (bl l) = some (decide (l ≠ []) && l.all dg) := by
  unfold num_digits.f
  simp only [bl_toList]
  by_cases c : l = []
  · subst c; rfl
  · rw [if_neg c]
    have ht : strings_Trim.f (bl l) (⟨#[48, 49, 50, 51, 52, 53, 54, 55, 56, 57]⟩ : ByteArray) = some (bl (Lib.trimS l [48, 49, 50, 51, 52, 53, 54, 55, 56, 57])) := by
      unfold strings_Trim.f
      rw [if_pos ⟨by decide, by decide, by rw [bl_size]; omega⟩, bl_data]
      rfl
    rw [ht, Option.bind_some]
    simp only [bl_toList]
    congr 1
    have h := trimS_nil l [48, 49, 50, 51, 52, 53, 54, 55, 56, 57]
    have hf : (fun x => ([48, 49, 50, 51, 52, 53, 54, 55, 56, 57] : List UInt8).contains x) = dg := funext digits_contains
    rw [hf] at h
    rw [decide_eq_true c, Bool.true_and, Bool.eq_iff_iff, beq_iff_eq, h]
theorem cutPrefix_eq (l : List UInt8) : strings_CutPrefix.f (bl l) (⟨#[45]⟩ : ByteArray) = some (if l.head? = some 45 then (bl l.tail, true) else (bl l, false)) := by
  unfold strings_CutPrefix.f
  rw [bl_data, show (⟨#[45]⟩ : ByteArray).data.toList = [45] from rfl, bl_def]
  unfold Lib.trimPrefix Lib.hasPrefix
  cases l with
  | nil => rfl
  | cons c r =>
    by_cases h : c = 45
    · subst h; simp
    · have h' : ¬ (45 : UInt8) = c := fun e => h e.symm
      simp [h, h', List.isPrefixOf]
theorem cut_eq (c : UInt8) (t : List UInt8) (ht : t.length ≤ 1000000) : (c ∉ t ∧ strings_Cut.f (bl t) (⟨#[c]⟩ : ByteArray) = some (bl t, bl [], false)) ∨
    (∃ w p, t = w ++ c :: p ∧ c ∉ w ∧ strings_Cut.f (bl t) (⟨#[c]⟩ : ByteArray) = some (bl w, bl p, true)) := by
  unfold strings_Cut.f
  simp only []
  rw [if_pos (by rw [bl_size]; omega), bl_data]
  by_cases c1 : Lib.indexByte t c = -1
  · left
    rw [if_pos c1]
    refine ⟨?_, rfl⟩
    intro hm
    obtain ⟨k, hk⟩ := List.mem_iff_getElem?.1 hm
    exact Lib.indexByte_none c1 k hk
  · right
    rw [if_neg c1]
    have hge := Lib.indexByte_ge t c
    obtain ⟨o, ho⟩ : ∃ o : Nat, Lib.indexByte t c = o := ⟨(Lib.indexByte t c).toNat, by omega⟩
    obtain ⟨h1, h2⟩ := Lib.indexByte_some ho
    obtain ⟨hlt, hget⟩ := List.getElem?_eq_some_iff.1 h1
    rw [ho, bl_size, if_pos ⟨by omega, by omega⟩, Int.toNat_natCast, bl_extract, bl_extract]
    refine ⟨t.take o, t.drop (o + 1), ?_, ?_, ?_⟩
    · rw [← hget, ← List.drop_eq_getElem_cons hlt, List.take_append_drop]
    · intro hm
      obtain ⟨k, hk⟩ := List.mem_iff_getElem?.1 hm
      rw [List.getElem?_take] at hk
      split at hk
      · rename_i hlt2; exact h2 k hlt2 hk
      · exact absurd hk (by simp)
    · rw [List.drop_zero, List.take_length]
def numP (k : Nat) (m : Bool) (t : ByteArray) : Option (Int × Int) := (strings_Cut.f t (⟨#[46]⟩ : ByteArray)).bind fun bt210 => ((num_digits.f bt210.1).bind fun t213 => (if t213 = true then (if bt210.2.2 = true then ((num_digits.f bt210.2.1).bind fun t214 => (if t214 = true then (num_Parse.j0 k m bt210.1 bt210.2.1 (decide ((bt210.2.1.size : Int) > 6))) else (num_Parse.j0 k m bt210.1 bt210.2.1 true))) else (num_Parse.j0 k m bt210.1 bt210.2.1 false)) else (num_Parse.j0 k m bt210.1 bt210.2.1 true)))
theorem num_Parse_f (k : Nat) (a0 : ByteArray) : num_Parse.f k a0 = if (a0.size : Int) > 40 then (some (0, 5)) else ((strings_CutPrefix.f a0 (⟨#[45]⟩ : ByteArray)).bind fun b => numP k b.2 b.1) := rfl
theorem num_Parse_j0_true (k : Nat) (m : Bool) (w p : ByteArray) : num_Parse.j0 (k + 1) m w p true = some (0, 5) := by
  simp only [num_Parse.j0]; rw [if_pos trivial]
theorem dropWhile_all {p : UInt8 → Bool} (q : UInt8 → Bool) (l : List UInt8) (h : l.all q = true) : (l.dropWhile p).all q = true := by
  induction l with
  | nil => rfl
  | cons c r ih =>
    rw [List.dropWhile_cons]
    simp only [List.all_cons, Bool.and_eq_true] at h
    split
    · exact ih h.2
    · simp [h.1, h.2]
theorem dropWhile_length {p : UInt8 → Bool} (l : List UInt8) : (l.dropWhile p).length ≤ l.length := by
  induction l with
  | nil => exact Nat.le_refl _
  | cons c r ih => rw [List.dropWhile_cons]; split <;> simp <;> omega
theorem frac_eq (p : List UInt8) (hp : p.length ≤ 6) : (p ++ [48, 48, 48, 48, 48, 48]).take 6 = p ++ List.replicate (6 - p.length) 48 := by
  rw [List.take_append, List.take_of_length_le hp, show ([48, 48, 48, 48, 48, 48] : List UInt8) = List.replicate 6 48 from rfl, List.take_replicate, Nat.min_eq_left (by omega)]
theorem zeros_all (n : Nat) : (List.replicate n (48 : UInt8)).all dg = true := by
  induction n with
  | zero => rfl
  | succ n ih => rw [List.replicate_succ, List.all_cons, ih]; rfl
theorem frac_lt (p : List UInt8) (h : p.all dg = true) (hp : p.length ≤ 6) : frac p < 1000000 := by
  have := dval_lt (p ++ List.replicate (6 - p.length) 48) (by rw [List.all_append, h, zeros_all]; rfl)
  rw [List.length_append, List.length_replicate, show p.length + (6 - p.length) = 6 by omega] at this
  exact this
theorem num_Parse_j0_eq (k : Nat) (m : Bool) (w p : List UInt8) (hw : w.all dg = true) (hl : w.length ≤ 40) (hp : p.all dg = true) (hpl : p.length ≤ 6) :
    num_Parse.j0 (k + 1) m (bl w) (bl p) false = some (numFin m (dval 0 w) (frac p)) := by
  simp only [num_Parse.j0]
  rw [if_neg (show ¬ (false = true) by decide)]
  have ht : strings_TrimLeft.f (bl w) (⟨#[48]⟩ : ByteArray) = some (bl (w.dropWhile ([48].contains ·))) := by
    unfold strings_TrimLeft.f
    rw [if_pos ⟨by decide, by decide⟩, bl_data]
    rfl
  rw [ht, Option.bind_some]
  rw [← dval_lead w]
  have hv := dropWhile_all (p := ([48].contains ·)) dg w hw
  have hvl := dropWhile_length (p := ([48].contains ·)) w
  have hv0 : (w.dropWhile ([48].contains ·)).head? ≠ some 48 := by
    intro h
    cases hd : w.dropWhile ([48].contains ·) with
    | nil => rw [hd] at h; exact absurd h (by simp)
    | cons c r =>
      have := dropWhile_head hd
      rw [hd] at h
      simp only [List.head?_cons, Option.some.injEq] at h
      rw [h] at this
      exact absurd this (by decide)
  generalize w.dropWhile ([48].contains ·) = v at *
  have hf := frac_lt p hp hpl
  rw [bl_size]
  by_cases c : (v.length : Int) > 13
  · rw [if_pos c]
    have hb := dval_big v hv hv0 (by intro h; subst h; simp at c)
    have h10 : 10 ^ 13 ≤ 10 ^ (v.length - 1) := Nat.pow_le_pow_right (by decide) (by omega)
    unfold numFin
    rw [if_pos (by omega)]
  · have hb := dval_lt v hv
    have h10 : 10 ^ v.length ≤ 10 ^ 13 := Nat.pow_le_pow_right (by decide) (by omega)
    rw [if_neg c, if_pos (by omega), bl_size, if_pos (by omega), if_pos (by decide), show (⟨#[48, 48, 48, 48, 48, 48]⟩ : ByteArray) = bl [48, 48, 48, 48, 48, 48] from rfl, show (⟨#[48]⟩ : ByteArray) = bl [48] from rfl, bl_append, bl_append, bl_size, if_pos (by simp; omega), bl_extract, List.drop_zero, frac_eq p hpl, bl_size, bl_size, if_pos (by simp; omega), bl_append]
    have hd : dval 0 ([48] ++ v ++ (p ++ List.replicate (6 - p.length) 48)) = dval 0 v * 1000000 + frac p := by
      rw [dval_append, dval_add (p ++ List.replicate (6 - p.length) 48), dval_append, List.length_append, List.length_replicate, show p.length + (6 - p.length) = 6 by omega]
      rfl
    have hall : ([48] ++ v ++ (p ++ List.replicate (6 - p.length) 48)).all dg = true := by
      rw [List.all_append, List.all_append, List.all_append, hv, hp, zeros_all]; rfl
    have hpu : strconv_ParseUint.f (bl ([48] ++ v ++ (p ++ List.replicate (6 - p.length) 48))) 10 64 = some (((dval 0 v * 1000000 + frac p : Nat) : Int), none) := by
      unfold strconv_ParseUint.f
      rw [if_pos ⟨rfl, rfl, by rw [bl_size]; simp; omega⟩, bl_data, parseUintB_ok _ hall (by simp) (by rw [hd]; omega), hd]
    rw [hpu, Option.bind_some]
    generalize hx : dval 0 v * 1000000 + frac p = x
    have hx2 : x < 10000000000000000000 := by omega
    simp only []
    unfold numFin
    rw [hx]
    by_cases c2 : 1000000000000000000 < x
    · rw [if_pos (by omega), if_pos c2]
    · rw [if_neg (by omega), if_neg c2]
      cases m with
      | true => rw [if_pos rfl, if_pos rfl, wN (a := (x : Int)) (by omega) (by omega), wN (by omega) (by omega)]
      | false => rw [if_neg (by decide), if_neg (by decide), wN (by omega) (by omega)]
theorem frac_nil : frac [] = 0 := by decide
theorem numP_eq (k : Nat) (m : Bool) (t : List UInt8) (ht : t.length ≤ 40) : numP (k + 1) m (bl t) = some (numT m t) := by
  unfold numP
  rcases cut_eq 46 t (by omega) with ⟨h46, hc⟩ | ⟨w, p, rfl, h46, hc⟩
  · rw [hc, Option.bind_some]
    simp only []
    rw [num_digits_eq t (by omega), Option.bind_some]
    by_cases c1 : t.all dg = true
    · have hn : numT m t = numR m t [] := by
        have := numT_of (r := []) m c1 (by intro c h; exact absurd h (by simp))
        rwa [List.append_nil] at this
      rw [hn]
      by_cases c2 : t = []
      · subst c2
        rw [if_neg (by decide), num_Parse_j0_true]
        rfl
      · rw [if_pos (by rw [c1, decide_eq_true c2]; rfl), if_neg (show ¬ (false = true) by decide), num_Parse_j0_eq k m t [] c1 ht rfl (by decide), frac_nil]
        unfold numR
        rw [if_neg c2]
    · rw [if_neg (by intro h; rw [Bool.and_eq_true] at h; exact c1 h.2), num_Parse_j0_true]
      have := numT_bad (r := []) m c1 h46
      rw [List.append_nil] at this
      rw [this]
  · rw [hc, Option.bind_some]
    simp only [List.length_append, List.length_cons] at ht
    simp only []
    rw [num_digits_eq w (by omega), Option.bind_some]
    by_cases c1 : w.all dg = true
    · have hn := numT_of (r := 46 :: p) m c1 (by intro c h; simp only [List.head?_cons, Option.some.injEq] at h; rw [← h]; rfl)
      rw [hn]
      by_cases c2 : w = []
      · subst c2
        rw [if_neg (by decide), num_Parse_j0_true]
        rfl
      · rw [if_pos (by rw [c1, decide_eq_true c2]; rfl), if_pos trivial, num_digits_eq p (by omega), Option.bind_some]
        unfold numR
        rw [if_neg c2]
        simp only []
        by_cases c3 : p.all dg = true
        · by_cases c4 : p = []
          · rw [if_neg (by intro h; rw [Bool.and_eq_true] at h; exact absurd (of_decide_eq_true h.1) (by simp [c4])), num_Parse_j0_true, if_neg (by intro h; exact h.2.1 c4)]
          · rw [if_pos (by rw [c3, decide_eq_true c4]; rfl), bl_size]
            by_cases c5 : p.length ≤ 6
            · rw [decide_eq_false (by omega), num_Parse_j0_eq k m w p c1 (by omega) c3 c5, if_pos ⟨trivial, c4, c5, c3⟩]
            · rw [decide_eq_true (by omega), num_Parse_j0_true, if_neg (by intro h; exact c5 h.2.2.1)]
        · rw [if_neg (by intro h; rw [Bool.and_eq_true] at h; exact c3 h.2), num_Parse_j0_true, if_neg (by intro h; exact c3 h.2.2.2)]
    · rw [if_neg (by intro h; rw [Bool.and_eq_true] at h; exact c1 h.2), num_Parse_j0_true, numT_bad m c1 h46]
theorem num_Parse_eq (k : Nat) (hk : 1 ≤ k) (l : List UInt8) : num_Parse.f k (bl l) = some (numL l) := by
  obtain ⟨k, rfl⟩ : ∃ q, k = q + 1 := ⟨k - 1, by omega⟩
  rw [num_Parse_f, bl_size]
  unfold numL
  by_cases c : 40 < l.length
  · rw [if_pos c, if_pos (by omega)]
  · rw [if_neg c, if_neg (by omega), cutPrefix_eq, Option.bind_some]
    by_cases c2 : l.head? = some 45
    · rw [if_pos c2, if_pos c2]
      simp only []
      rw [numP_eq k true _ (by simp; omega)]
    · rw [if_neg c2, if_neg c2]
      simp only []
      rw [numP_eq k false _ (by omega)]
end Go.Proofs.YtmppnobldhhpjaaGreatDoor.Pr
namespace Go.Proofs.YtmppnobldhhpjaaGreatDoor.Pr
set_option linter.unusedVariables false
set_option linter.unusedSimpArgs false
open Go.RowKit Go.Proofs.YtmppnobldhhpjaaGreatDoorW.PrintWords Go.Proofs.YtmppnobldhhpjaaGreatDoorW.PrintMore
theorem bt_bl (w : List UInt8) (c : UInt8) (r : List UInt8) (i : Int) (h : i = w.length) : bt (bl (w ++ c :: r)) i = (c.toNat : Int) := by
  subst h
  unfold bt
  have hs : ((w.length : Nat) : Int).toNat < (bl (w ++ c :: r)).size := by rw [bl_size]; simp
  rw [dif_pos hs]
  congr 2
  have : ∀ (l : List UInt8) (j : Nat) (h : j < (bl l).size) (h2 : j < l.length), (bl l)[j]'h = l[j]'h2 := by
    intro l j h h2; rfl
  rw [this _ _ hs (by simp)]
  simp
theorem ref01_digit_eq (c : UInt8) : foolscapref01_digit.f (c.toNat : Int) = some (dg c) := by
  unfold foolscapref01_digit.f dg
  by_cases h : (c.toNat : Int) ≥ 48
  · rw [if_pos h, decide_eq_true (show 48 ≤ c.toNat by omega), Bool.true_and]
    congr 1; rw [decide_eq_decide]; omega
  · rw [if_neg h, decide_eq_false (show ¬ 48 ≤ c.toNat by omega), Bool.false_and]
def sat (M : Nat) : Int := if 1000000000000 < M then 1000000000001 else (M : Int)
def ovr (M : Nat) : Bool := decide (1000000000000 < M)
theorem ovr_t {M : Nat} (h : 1000000000000 < M) : ovr M = true := decide_eq_true h
theorem ovr_f {M : Nat} (h : ¬ 1000000000000 < M) : ovr M = false := decide_eq_false h
theorem sat_f {M : Nat} (h : ¬ 1000000000000 < M) : sat M = (M : Int) := by unfold sat; rw [if_neg h]
theorem ref01_j6 (k : Nat) (m : Bool) (W F : Nat) (hF : F < 1000000) : foolscapref01_Parse.j6 (k + 2) m (sat W * 1000000 + (F : Int)) (ovr W) = some (numFin m W F) := by
  simp only [foolscapref01_Parse.j6]
  unfold numFin
  by_cases c : 1000000000000 < W
  · rw [ovr_t c, if_pos rfl, if_pos (by omega)]
    simp only [foolscapref01_Parse.j7]
    rw [if_pos trivial]
  · rw [ovr_f c, if_neg (by decide), sat_f c]
    by_cases c2 : 1000000000000000000 < W * 1000000 + F
    · rw [if_pos c2, decide_eq_true (by omega)]
      simp only [foolscapref01_Parse.j7]
      rw [if_pos trivial]
    · rw [if_neg c2, decide_eq_false (by omega)]
      simp only [foolscapref01_Parse.j7]
      have hc : ((W * 1000000 + F : Nat) : Int) = (W : Int) * 1000000 + (F : Int) := by omega
      rw [if_neg (by decide), wN (by omega) (by omega)]
      cases m with
      | true => rw [if_pos rfl, if_pos rfl, hc]
      | false => rw [if_neg (by decide), if_neg (by decide), hc]
def p10 (n : Nat) : Nat := 10 ^ n
theorem p10_succ (n : Nat) : p10 (n + 1) = 10 * p10 n := by unfold p10; rw [Nat.pow_succ, Nat.mul_comm]
theorem p10_le {n : Nat} (h : n ≤ 5) : p10 n ≤ 100000 := by
  have h1 : 10 ^ n ≤ 10 ^ 5 := Nat.pow_le_pow_right (by decide) h
  exact h1
theorem frac_snoc (a : List UInt8) (c : UInt8) (r : List UInt8) (hl : (a ++ c :: r).length ≤ 6) (hc : dg c = true) : dval 0 a * p10 (6 - a.length) + p10 (6 - (a.length + 1)) * (c.toNat - 48) = dval 0 (a ++ [c]) * p10 (6 - (a.length + 1)) := by
  simp only [List.length_append, List.length_cons] at hl
  rw [dval_snoc, Nat.add_mul, show 6 - a.length = (6 - (a.length + 1)) + 1 by omega, p10_succ, Nat.mul_comm (c.toNat - 48)]
  congr 1
  rw [← Nat.mul_assoc, Nat.mul_comm _ 10]
theorem ref01_l1 (m : Bool) (W : Nat) (u : List UInt8) (b : List UInt8) : ∀ (k : Nat) (a : List UInt8), b.length + 10 < k → a.all dg = true → (a ++ b).length ≤ 6 → u.length ≤ 100 →
    foolscapref01_Parse.l1 k (bl (u ++ (a ++ b))) m (sat W * 1000000 + ((dval 0 a * p10 (6 - a.length) : Nat) : Int)) (((u.length + a.length : Nat)) : Int) (ovr W) ((p10 (6 - a.length) : Nat) : Int) = some (if b.all dg = true then numFin m W (frac (a ++ b)) else (0, 5)) := by
  induction b with
  | nil =>
    intro k a hk ha hl hu
    obtain ⟨k, rfl⟩ : ∃ q, k = q + 3 := ⟨k - 3, by simp at hk; omega⟩
    simp only [foolscapref01_Parse.l1]
    rw [bl_size, if_neg (by simp), List.append_nil]
    rw [List.append_nil] at hl
    have hf : frac a = dval 0 a * p10 (6 - a.length) := by
      unfold frac; rw [dval_append, dval_zeros]; rfl
    have hlt := frac_lt a ha hl
    rw [← hf, ref01_j6 k m W _ hlt]
    rfl
  | cons c r ih =>
    intro k a hk ha hl hu
    obtain ⟨k, rfl⟩ : ∃ q, k = q + 1 := ⟨k - 1, by omega⟩
    have hl2 := hl
    simp only [List.length_append, List.length_cons] at hl2
    simp only [List.length_cons] at hk
    simp only [foolscapref01_Parse.l1]
    rw [bl_size, if_pos (by simp; omega), if_pos (by omega), ← List.append_assoc u a, bt_bl (u ++ a) c r _ (by simp), ref01_digit_eq, Option.bind_some]
    by_cases c1 : dg c = true
    · have hd := (dg_iff c).1 c1
      rw [if_pos c1]
      have h6 : 6 - a.length = (6 - (a.length + 1)) + 1 := by omega
      have hdiv : Int.tdiv ((p10 (6 - a.length) : Nat) : Int) 10 = ((p10 (6 - (a.length + 1)) : Nat) : Int) := by
        rw [Int.tdiv_eq_ediv_of_nonneg (by omega), h6, p10_succ]; omega
      have hp6 : p10 (6 - (a.length + 1)) ≤ 100000 := p10_le (by omega)
      have hfr := frac_snoc a c r hl c1
      have hac : (a ++ [c]).all dg = true := by rw [List.all_append, ha]; simp [c1]
      have hlt := frac_lt (a ++ [c]) hac (by simp; omega)
      have hf : frac (a ++ [c]) = dval 0 (a ++ [c]) * p10 (6 - (a.length + 1)) := by
        unfold frac; rw [dval_append (a ++ [c]), dval_zeros, List.length_append]; rfl
      have hsat : 0 ≤ sat W ∧ sat W ≤ 1000000000001 := by unfold sat; split <;> omega
      have hmul : ((p10 (6 - (a.length + 1)) : Nat) : Int) * (((c.toNat : Int) - 48) % 256) = ((p10 (6 - (a.length + 1)) * (c.toNat - 48) : Nat) : Int) := by
        rw [show ((c.toNat : Int) - 48) % 256 = ((c.toNat - 48 : Nat) : Int) by omega]; rw [Int.natCast_mul]
      rw [hdiv, wN (a := ((p10 (6 - (a.length + 1)) : Nat) : Int)) (by omega) (by omega), hmul, wN (a := ((p10 (6 - (a.length + 1)) * (c.toNat - 48) : Nat) : Int)) (by omega) (by omega), Int.add_assoc, ← Int.natCast_add, hfr, wN (a := sat W * 1000000 + _) (by omega) (by omega), wN (by omega) (by omega)]
      have := ih k (a ++ [c]) (by omega) hac (by simp; omega) hu
      simp only [List.length_append, List.length_cons, List.length_nil, Nat.zero_add, List.append_assoc, List.cons_append, List.nil_append] at this
      rw [List.append_assoc u a, show (((u.length + a.length : Nat)) : Int) + 1 = ((u.length + (a.length + 1) : Nat) : Int) by omega, this]
      simp only [List.all_cons, c1, Bool.true_and]
    · rw [if_neg c1, if_neg (by intro h; simp only [List.all_cons, Bool.and_eq_true] at h; exact c1 h.1)]
theorem ref01_j4_true (k : Nat) (t : ByteArray) (m o : Bool) (x i : Int) : foolscapref01_Parse.j4 (k + 1) t m x i o true = some (0, 5) := by
  simp only [foolscapref01_Parse.j4]; rw [if_pos trivial]
theorem ref01_end (k : Nat) (hk : 40 ≤ k) (m : Bool) (w r : List UInt8) (hl : (w ++ r).length ≤ 40) (hw : w.all dg = true) :
    foolscapref01_Parse.j3 k (bl (w ++ r)) m (sat (dval 0 w)) (w.length : Int) (ovr (dval 0 w)) false = some (numR m w r) := by
  obtain ⟨k, rfl⟩ : ∃ q, k = q + 4 := ⟨k - 4, by omega⟩
  have hsat : 0 ≤ sat (dval 0 w) ∧ sat (dval 0 w) ≤ 1000000000001 := by unfold sat; split <;> omega
  simp only [List.length_append] at hl
  simp only [foolscapref01_Parse.j3]
  rw [if_neg (show ¬ (false = true) by decide)]
  unfold numR
  by_cases c1 : w = []
  · subst c1; rw [if_pos (show (([] : List UInt8).length : Int) = 0 by rfl), if_pos rfl]
  · have hw0 : 1 ≤ w.length := by cases w with | nil => exact absurd rfl c1 | cons _ _ => simp
    rw [if_neg (by omega), if_neg c1, bl_size, wN (a := sat (dval 0 w) * 1000000) (by omega) (by omega)]
    cases r with
    | nil =>
      rw [if_neg (by simp)]
      have := ref01_j6 (k + 1) m (dval 0 w) 0 (by decide)
      rw [show sat (dval 0 w) * 1000000 + ((0 : Nat) : Int) = sat (dval 0 w) * 1000000 by omega] at this
      rw [this]
    | cons c p =>
      simp only [List.length_cons] at hl
      rw [if_pos (by simp; omega), if_pos (by omega), bt_bl w c p _ rfl]
      simp only []
      have hsz : (((w ++ c :: p).length : Nat) : Int) = (w.length : Int) + 1 + (p.length : Int) := by simp; omega
      rw [hsz, wN (a := (w.length : Int) + 1) (by omega) (by omega)]
      by_cases c2 : c = 46
      · subst c2
        rw [if_pos (show (((46 : UInt8).toNat : Nat) : Int) = 46 by decide)]
        by_cases c3 : p = []
        · subst c3
          rw [if_pos (by simp), ref01_j4_true, if_neg (by intro h; exact h.2.1 rfl)]
        · have hp0 : 1 ≤ p.length := by cases p with | nil => exact absurd rfl c3 | cons _ _ => simp
          rw [if_neg (by omega), show wrap64 (wrap64 ((w.length : Int) + 1 + (p.length : Int) - (w.length : Int)) - 1) = (p.length : Int) by rw [wN (a := (w.length : Int) + 1 + (p.length : Int) - (w.length : Int)) (by omega) (by omega), wN (by omega) (by omega)]; omega]
          by_cases c4 : p.length ≤ 6
          · rw [decide_eq_false (by omega)]
            simp only [foolscapref01_Parse.j4]
            rw [if_neg (show ¬ (false = true) by decide), wN (a := (w.length : Int) + 1) (by omega) (by omega)]
            have := ref01_l1 m (dval 0 w) (w ++ [46]) p (k + 2) [] (by omega) rfl (by simp; omega) (by simp; omega)
            simp only [List.append_assoc, List.cons_append, List.nil_append, List.length_append, List.length_cons, List.length_nil, Nat.add_zero, Nat.zero_add, Nat.sub_zero] at this
            rw [show sat (dval 0 w) * 1000000 + ((dval 0 [] * p10 6 : Nat) : Int) = sat (dval 0 w) * 1000000 by rw [dval_nil]; omega, show ((w.length + 1 : Nat) : Int) = (w.length : Int) + 1 by omega, show ((p10 6 : Nat) : Int) = 1000000 by decide] at this
            rw [this]
            by_cases c5 : p.all dg = true
            · rw [if_pos c5, if_pos ⟨trivial, c3, c4, c5⟩]
            · rw [if_neg c5, if_neg (by intro h; exact c5 h.2.2.2)]
          · rw [decide_eq_true (by omega), ref01_j4_true, if_neg (by intro h; exact c4 h.2.2.1)]
      · rw [if_neg (by intro h; exact c2 (UInt8.toNat_inj.1 (by rw [show (46 : UInt8).toNat = 46 from rfl]; omega))), ref01_j4_true, if_neg (by intro h; exact c2 h.1)]
theorem ref01_l0 (m : Bool) (r : List UInt8) (hr : ∀ c, r.head? = some c → dg c = false) (b : List UInt8) : ∀ (k : Nat) (a : List UInt8), 2 * b.length + 50 < k → a.all dg = true → b.all dg = true → (a ++ b ++ r).length ≤ 40 →
    foolscapref01_Parse.l0 k (bl (a ++ b ++ r)) m (sat (dval 0 a)) (a.length : Int) (ovr (dval 0 a)) = some (numR m (a ++ b) r) := by
  induction b with
  | nil =>
    intro k a hk ha hb hl
    obtain ⟨k, rfl⟩ : ∃ q, k = q + 1 := ⟨k - 1, by omega⟩
    simp only [foolscapref01_Parse.l0]
    rw [List.append_nil] at hl ⊢
    rw [bl_size]
    have he := ref01_end k (by simp at hk; omega) m a r hl ha
    cases r with
    | nil => rw [if_neg (by simp), he]
    | cons c p => rw [if_pos (by simp; omega), if_pos (by omega), bt_bl a c p _ rfl, ref01_digit_eq, hr c rfl, Option.bind_some, he]
  | cons c b ih =>
    intro k a hk ha hb hl
    obtain ⟨k, rfl⟩ : ∃ q, k = q + 2 := ⟨k - 2, by omega⟩
    simp only [List.all_cons, Bool.and_eq_true] at hb
    have hd := (dg_iff c).1 hb.1
    simp only [List.length_cons] at hk
    have hl2 := hl
    simp only [List.length_append, List.length_cons] at hl2
    simp only [foolscapref01_Parse.l0, foolscapref01_Parse.j3]
    have he : a ++ c :: b ++ r = a ++ c :: (b ++ r) := by simp
    rw [bl_size, he, if_pos (by simp; omega), if_pos (by omega), bt_bl a c (b ++ r) _ rfl, ref01_digit_eq, hb.1, Option.bind_some, if_pos rfl, if_pos (by omega), if_pos (by simp; omega)]
    have hac : (a ++ [c]).all dg = true := by rw [List.all_append, ha]; simp [hb.1]
    have := ih k (a ++ [c]) (by omega) hac hb.2 (by simp; omega)
    rw [dval_snoc] at this
    simp only [List.length_append, List.length_cons, List.length_nil, Nat.zero_add, List.append_assoc, List.cons_append, List.nil_append] at this
    rw [wN (a := (a.length : Int) + 1) (by omega) (by omega), show (a.length : Int) + 1 = ((a.length + 1 : Nat) : Int) by omega]
    generalize hM : dval 0 a = M at *
    have h48 : ((c.toNat : Int) - 48) % 256 = ((c.toNat - 48 : Nat) : Int) := by omega
    rw [h48]
    have hd9 : c.toNat - 48 ≤ 9 := by omega
    generalize c.toNat - 48 = x at *
    by_cases c1 : 1000000000000 < M
    · rw [show sat M = 1000000000001 by unfold sat; rw [if_pos c1], if_pos (by rw [wN (a := 10 * 1000000000001) (by omega) (by omega), wN (by omega) (by omega)]; omega)]
      rw [show sat (10 * M + x) = 1000000000001 by unfold sat; rw [if_pos (by omega)], show ovr (10 * M + x) = true from decide_eq_true (by omega)] at this
      exact this
    · rw [show sat M = (M : Int) by unfold sat; rw [if_neg c1], show ovr M = false from decide_eq_false c1, wN (a := 10 * (M : Int)) (by omega) (by omega), wN (a := 10 * (M : Int) + (x : Int)) (by omega) (by omega)]
      by_cases c2 : 1000000000000 < 10 * M + x
      · rw [show sat (10 * M + x) = 1000000000001 by unfold sat; rw [if_pos c2], show ovr (10 * M + x) = true from decide_eq_true c2] at this
        rw [if_pos (by omega)]
        exact this
      · rw [show sat (10 * M + x) = ((10 * M + x : Nat) : Int) by unfold sat; rw [if_neg c2], show ovr (10 * M + x) = false from decide_eq_false c2] at this
        rw [if_neg (by omega), show 10 * (M : Int) + (x : Int) = ((10 * M + x : Nat) : Int) by omega]
        exact this
theorem ref01_Parse_t (k : Nat) (hk : 200 ≤ k) (m : Bool) (t : List UInt8) (ht : t.length ≤ 40) : foolscapref01_Parse.j1 k (bl t) m = some (numT m t) := by
  obtain ⟨k, rfl⟩ : ∃ q, k = q + 1 := ⟨k - 1, by omega⟩
  simp only [foolscapref01_Parse.j1]
  have hs : t.takeWhile dg ++ t.dropWhile dg = t := List.takeWhile_append_dropWhile
  have hlen : (t.takeWhile dg).length ≤ 40 := by have := congrArg List.length hs; simp only [List.length_append] at this; omega
  have := ref01_l0 m (t.dropWhile dg) (by intro c h; cases hd : t.dropWhile dg with | nil => rw [hd] at h; exact absurd h (by simp) | cons b r => rw [hd] at h; simp only [List.head?_cons, Option.some.injEq] at h; rw [← h]; exact dropWhile_head hd) (t.takeWhile dg) k [] (by omega) rfl (takeWhile_all t) (by rw [List.nil_append, hs]; exact ht)
  simp only [List.nil_append, hs] at this
  exact this
theorem ref01_Parse_eq (k : Nat) (hk : 300 ≤ k) (l : List UInt8) : foolscapref01_Parse.f k (bl l) = some (numL l) := by
  obtain ⟨k, rfl⟩ : ∃ q, k = q + 1 := ⟨k - 1, by omega⟩
  unfold foolscapref01_Parse.f numL
  rw [bl_size]
  by_cases c : 40 < l.length
  · rw [if_pos c, if_pos (by omega)]
  · rw [if_neg c, if_neg (by omega)]
    cases l with
    | nil =>
      rw [if_neg (by simp)]
      simp only [foolscapref01_Parse.j0]
      rw [if_neg (by decide), ref01_Parse_t k (by omega) false [] (by simp), if_neg (by simp)]
    | cons b r =>
      simp only [List.length_cons] at c
      rw [if_pos (by simp), if_pos (by simp)]
      have hb := bt_bl [] b r 0 rfl
      rw [List.nil_append] at hb
      rw [hb]
      by_cases c2 : b = 45
      · subst c2
        rw [if_pos (show (45 :: r).head? = some (45 : UInt8) from rfl), show ((((45 : UInt8).toNat : Nat) : Int) == 45) = true by decide]
        simp only [foolscapref01_Parse.j0, List.tail_cons]
        rw [if_pos trivial, if_pos (by rw [bl_size]; simp; omega), bl_size, bl_extract, List.take_length, List.drop_one, List.tail_cons, ref01_Parse_t k (by omega) true r (by omega)]
      · have hne : ((b.toNat : Int) == 45) = false := by
          rw [beq_eq_false_iff_ne]; intro h; exact c2 (UInt8.toNat_inj.1 (by rw [show (45 : UInt8).toNat = 45 from rfl]; omega))
        rw [hne, if_neg (show ¬ (b :: r).head? = some (45 : UInt8) by simpa using c2)]
        simp only [foolscapref01_Parse.j0]
        rw [if_neg (by decide), ref01_Parse_t k (by omega) false (b :: r) (by simp; omega)]
end Go.Proofs.YtmppnobldhhpjaaGreatDoor.Pr
namespace Go.Proofs.YtmppnobldhhpjaaGreatDoor.Pr
set_option linter.unusedVariables false
set_option linter.unusedSimpArgs false
open Go.RowKit Go.Proofs.YtmppnobldhhpjaaGreatDoorW.PrintWords Go.Proofs.YtmppnobldhhpjaaGreatDoorW.PrintMore
end Go.Proofs.YtmppnobldhhpjaaGreatDoor.Pr
end
