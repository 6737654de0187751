/-
  What the law ValueBack leans on, out of the texts that were printed and written for this seat: only what its proof mentions (gathered by a program of the author's).
-/
import Derived.Test.YtgjdlimbkjdhjaaGreatDoorSValueBack4
import Derived.Test.YtgjdlimbkjdhjaaGreatDoorSValueBack9
import Derived.Test.YtgjdlimbkjdhjaaGreatDoorSValueBack11
import Derived.Test.YtgjdlimbkjdhjaaGreatDoorSValueBack13
import Derived.Test.YtgjdlimbkjdhjaaGreatDoorSValueBack10
import Derived.Test.YtgjdlimbkjdhjaaGreatDoorSValueBack5
import Derived.Test.YtgjdlimbkjdhjaaGreatDoorSValueBack12
import Derived.Test.YtgjdlimbkjdhjaaGreatDoorSValueBack8
import Derived.Laws.BytesArg
import Derived.Lib.IndexLaws
import Derived.Lib.ItoaNum
import Derived.Lib.ParseIntB
import Derived.Lib.Repeat
import Derived.Lib.SlTrimSet
import Derived.Lib.Strings
import Derived.WalkKit
import Derived.Lib.Bytealg
section
namespace Go.Proofs.YtgjdlimbkjdhjaaGreatDoor.Pr
set_option linter.unusedVariables false
def bl (l : List UInt8) : ByteArray := ⟨l.toArray⟩
theorem bl_def (l : List UInt8) : (⟨l.toArray⟩ : ByteArray) = bl l := rfl
theorem bl_append (a b : List UInt8) : bl a ++ bl b = bl (a ++ b) := by apply ByteArray.ext; simp [bl]
theorem bl_size (a : List UInt8) : (bl a).size = a.length := by simp [bl, ByteArray.size]
theorem bl_extract (a : List UInt8) (i j : Nat) : (bl a).extract i j = bl ((a.take j).drop i) := by
  apply ByteArray.ext; simp [bl, ByteArray.data_extract, List.drop_take]
theorem bl_toList (a : List UInt8) : (bl a).toList = a := by rw [Lib.toList_data]; simp [bl]
theorem bl_data (a : List UInt8) : (bl a).data.toList = a := by simp [bl]
theorem bl_of (s : ByteArray) : bl s.data.toList = s := by apply ByteArray.ext; simp [bl]
theorem bl_inj {a b : List UInt8} (h : bl a = bl b) : a = b := by have := congrArg ByteArray.toList h; rwa [bl_toList, bl_toList] at this
theorem decDigits_small (u : Nat) (h : u < 10) : Lib.decDigits u = [UInt8.ofNat (48 + u)] := by rw [Lib.decDigits, dif_pos h]
theorem decDigits_big (u : Nat) (h : ¬ u < 10) : Lib.decDigits u = Lib.decDigits (u / 10) ++ [UInt8.ofNat (48 + u % 10)] := by rw [Lib.decDigits, dif_neg h]
theorem decDigits_length (f : Nat) : ∀ u, u < 10 ^ (f + 1) → 1 ≤ (Lib.decDigits u).length ∧ (Lib.decDigits u).length ≤ f + 1 := by
  induction f with
  | zero => intro u h; rw [decDigits_small u (by omega)]; simp
  | succ f ih =>
    intro u h
    by_cases c : u < 10
    · rw [decDigits_small u c]; simp
    · rw [decDigits_big u c]
      have := ih (u / 10) (by rw [Nat.pow_succ] at h; omega)
      simp
      omega
theorem repeat_one (b : UInt8) (n : Nat) : Lib.repeatL [b] n = List.replicate n b := by
  induction n with
  | zero => rfl
  | succ n ih => rw [Lib.repeatL, ih]; rfl
end Go.Proofs.YtgjdlimbkjdhjaaGreatDoor.Pr
namespace Go.Proofs.YtgjdlimbkjdhjaaGreatDoor.Pr
set_option linter.unusedVariables false
open Go.RowKit Go.Proofs.YtgjdlimbkjdhjaaGreatDoorW.PrintWords Go.Proofs.YtgjdlimbkjdhjaaGreatDoorW.PrintMore
end Go.Proofs.YtgjdlimbkjdhjaaGreatDoor.Pr
namespace Go.Proofs.YtgjdlimbkjdhjaaGreatDoor.Pr
set_option linter.unusedVariables false
set_option linter.unusedSimpArgs false
def dg (b : UInt8) : Bool := decide (48 ≤ b.toNat) && decide (b.toNat ≤ 57)
theorem dg_iff (b : UInt8) : dg b = true ↔ 48 ≤ b.toNat ∧ b.toNat ≤ 57 := by simp [dg]
def dvl : List UInt8 → Nat → Nat
  | [], acc => acc
  | c :: r, acc => dvl r (10 * acc + (c.toNat - 48))
def dval (acc : Nat) (l : List UInt8) : Nat := dvl l acc
theorem dvl_cons (a : Nat) (c : UInt8) (r : List UInt8) : dvl (c :: r) a = dvl r (10 * a + (c.toNat - 48)) := rfl
theorem dval_cons (a : Nat) (c : UInt8) (r : List UInt8) : dval a (c :: r) = dval (10 * a + (c.toNat - 48)) r := by unfold dval; exact dvl_cons a c r
theorem dval_nil (a : Nat) : dval a [] = a := rfl
theorem dval_append (l m : List UInt8) : ∀ a, dval a (l ++ m) = dval (dval a l) m := by
  induction l with
  | nil => intro a; rfl
  | cons c r ih => intro a; rw [List.cons_append, dval_cons, dval_cons]; exact ih _
theorem dval_ge (l : List UInt8) : ∀ a, a ≤ dval a l := by
  induction l with
  | nil => intro a; exact Nat.le_refl _
  | cons c r ih => intro a; have := ih (10 * a + (c.toNat - 48)); simp only [dval_cons]; omega
theorem dval_add (l : List UInt8) : ∀ a, dval a l = a * 10 ^ l.length + dval 0 l := by
  induction l with
  | nil => intro a; simp [dval_nil]
  | cons c r ih =>
    intro a
    simp only [dval_cons, List.length_cons]
    rw [ih (10 * a + (c.toNat - 48)), ih (10 * 0 + (c.toNat - 48)), Nat.pow_succ, Nat.add_mul, Nat.add_mul, show 10 * a * 10 ^ r.length = a * (10 ^ r.length * 10) by rw [Nat.mul_comm 10 a, Nat.mul_assoc, Nat.mul_comm 10 (10 ^ r.length)]]
    omega
theorem dval_lt (l : List UInt8) (h : l.all dg = true) : dval 0 l < 10 ^ l.length := by
  induction l with
  | nil => simp [dval_nil]
  | cons c r ih =>
    simp only [List.all_cons, Bool.and_eq_true] at h
    have h1 := ih h.2
    have h2 := (dg_iff c).1 h.1
    simp only [dval_cons, List.length_cons]
    rw [dval_add r, Nat.pow_succ]
    have h3 : (10 * 0 + (c.toNat - 48)) * 10 ^ r.length ≤ 9 * 10 ^ r.length := Nat.mul_le_mul_right _ (by omega)
    omega
theorem dval_snoc (l : List UInt8) (c : UInt8) (a : Nat) : dval a (l ++ [c]) = 10 * dval a l + (c.toNat - 48) := by rw [dval_append]; rfl
theorem dval_lead (l : List UInt8) : dval 0 (l.dropWhile ([48].contains ·)) = dval 0 l := by
  induction l with
  | nil => rfl
  | cons c r ih =>
    rw [List.dropWhile_cons]
    split
    · rename_i h
      rw [Lib.contains_one] at h
      rw [ih, eq_of_beq h]
      rfl
    · rfl
theorem dval_big (l : List UInt8) (h : l.all dg = true) (h0 : l.head? ≠ some 48) (hl : l ≠ []) : 10 ^ (l.length - 1) ≤ dval 0 l := by
  cases l with
  | nil => exact absurd rfl hl
  | cons c r =>
    simp only [List.all_cons, Bool.and_eq_true] at h
    have h2 := (dg_iff c).1 h.1
    have h3 : c.toNat ≠ 48 := fun e => h0 (by simp only [List.head?_cons, Option.some.injEq]; exact UInt8.toNat_inj.1 e)
    simp only [dval_cons, List.length_cons, Nat.add_sub_cancel]
    rw [dval_add r]
    have h3 : 1 * 10 ^ r.length ≤ (10 * 0 + (c.toNat - 48)) * 10 ^ r.length := Nat.mul_le_mul_right _ (by omega)
    omega
theorem dropWhile_head {p : UInt8 → Bool} : ∀ {l : List UInt8} {c : UInt8} {r : List UInt8}, l.dropWhile p = c :: r → p c = false := by
  intro l
  induction l with
  | nil => intro c r h; simp at h
  | cons b l ih =>
    intro c r h
    rw [List.dropWhile_cons] at h
    split at h
    · exact ih h
    · rename_i hb
      injection h with h1 h2
      rw [← h1]; simpa using hb
theorem dropWhile_nil {p : UInt8 → Bool} : ∀ {l : List UInt8}, l.dropWhile p = [] ↔ l.all p = true := by
  intro l
  induction l with
  | nil => simp
  | cons b l ih =>
    rw [List.dropWhile_cons]
    split
    · rename_i hb; rw [ih]; simp [hb]
    · rename_i hb; simp [hb]
theorem trimS_nil (l cs : List UInt8) : Lib.trimS l cs = [] ↔ l.all (cs.contains ·) = true := by
  unfold Lib.trimS Lib.trimLeftS Lib.trimRightS
  rw [dropWhile_nil]
  constructor
  · intro h
    cases hd : l.reverse.dropWhile (cs.contains ·) with
    | nil => have := dropWhile_nil.1 hd; rwa [List.all_reverse] at this
    | cons c r =>
      rw [hd, List.all_reverse] at h
      simp only [List.all_cons, Bool.and_eq_true] at h
      have := dropWhile_head hd
      rw [this] at h
      exact absurd h.1 (by decide)
  · intro h
    have : l.reverse.dropWhile (cs.contains ·) = [] := dropWhile_nil.2 (by rwa [List.all_reverse])
    rw [this]; rfl
theorem digits_contains (b : UInt8) : ([48, 49, 50, 51, 52, 53, 54, 55, 56, 57] : List UInt8).contains b = dg b := by
  rw [Bool.eq_iff_iff, dg_iff]
  simp only [List.contains_cons, List.contains_nil, Bool.or_eq_true, beq_iff_eq, Bool.false_eq_true, or_false, ← UInt8.toNat_inj]
  simp only [UInt8.reduceToNat]
  omega
theorem parseUintM_ok (l : List UInt8) (h : l.all dg = true) : ∀ acc, dval acc l ≤ 2 ^ 64 - 1 → Lib.parseUintM (2 ^ 64 - 1) acc l = .ok (dval acc l) := by
  induction l with
  | nil => intro acc ha; rfl
  | cons c r ih =>
    intro acc ha
    simp only [List.all_cons, Bool.and_eq_true] at h
    have h2 := (dg_iff c).1 h.1
    simp only [dval_cons] at ha ⊢
    have h3 := dval_ge r (10 * acc + (c.toNat - 48))
    unfold Lib.parseUintM
    rw [if_pos h2, if_neg (by omega), if_neg (by omega), Nat.mul_comm acc 10]
    exact ih h.2 _ ha
theorem parseUintB_ok (l : List UInt8) (h : l.all dg = true) (h0 : l ≠ []) (hb : dval 0 l ≤ 2 ^ 64 - 1) : Lib.parseUintB 64 l = .ok (dval 0 l) := by
  unfold Lib.parseUintB
  rw [if_neg h0]
  exact parseUintM_ok l h 0 hb
def numFin (minus : Bool) (W F : Nat) : Int × Int := if 1000000000000000000 < W * 1000000 + F then (0, 3) else (if minus = true then -((W * 1000000 + F : Nat) : Int) else ((W * 1000000 + F : Nat) : Int), 0)
def frac (p : List UInt8) : Nat := dval 0 (p ++ List.replicate (6 - p.length) 48)
def numR (minus : Bool) (w r : List UInt8) : Int × Int :=
  if w = [] then (0, 5) else match r with
  | [] => numFin minus (dval 0 w) 0
  | c :: p => if c = 46 ∧ p ≠ [] ∧ p.length ≤ 6 ∧ p.all dg = true then numFin minus (dval 0 w) (frac p) else (0, 5)
def numT (minus : Bool) (t : List UInt8) : Int × Int := numR minus (t.takeWhile dg) (t.dropWhile dg)
def numL (l : List UInt8) : Int × Int := if 40 < l.length then (0, 5) else if l.head? = some 45 then numT true l.tail else numT false l
theorem takeWhile_all (l : List UInt8) : (l.takeWhile dg).all dg = true := by
  induction l with
  | nil => rfl
  | cons b l ih => rw [List.takeWhile_cons]; split <;> simp_all
theorem take_of_all {w r : List UInt8} (h : w.all dg = true) (h2 : ∀ c, r.head? = some c → dg c = false) : (w ++ r).takeWhile dg = w ∧ (w ++ r).dropWhile dg = r := by
  induction w with
  | nil =>
    cases r with
    | nil => exact ⟨rfl, rfl⟩
    | cons c r => simp [h2 c rfl]
  | cons b w ih =>
    simp only [List.all_cons, Bool.and_eq_true] at h
    simp [h.1, ih h.2]
theorem numT_of {w r : List UInt8} (m : Bool) (h : w.all dg = true) (h2 : ∀ c, r.head? = some c → dg c = false) : numT m (w ++ r) = numR m w r := by
  unfold numT
  rw [(take_of_all h h2).1, (take_of_all h h2).2]
theorem numT_bad (m : Bool) {w r : List UInt8} (h : ¬ w.all dg = true) (h2 : (46 : UInt8) ∉ w) : numT m (w ++ r) = (0, 5) := by
  unfold numT numR
  cases hd : w.dropWhile dg with
  | nil => exact absurd (dropWhile_nil.1 hd) h
  | cons c q =>
    have hc := dropWhile_head hd
    have hw : w = w.takeWhile dg ++ c :: q := by rw [← hd, List.takeWhile_append_dropWhile]
    have h46 : c ≠ 46 := by
      intro e
      apply h2
      rw [hw, e]
      simp
    have hb : ((w ++ r).takeWhile dg = w.takeWhile dg) ∧ (w ++ r).dropWhile dg = c :: (q ++ r) := by
      have := take_of_all (w := w.takeWhile dg) (r := c :: (q ++ r)) (takeWhile_all w) (by intro x hx; simp only [List.head?_cons, Option.some.injEq] at hx; rw [← hx]; exact hc)
      have he : w ++ r = w.takeWhile dg ++ c :: (q ++ r) := by
        conv => lhs; rw [hw]
        simp
      rw [he]; exact this
    rw [hb.1, hb.2]
    split
    · rfl
    · simp only []
      rw [if_neg (by intro h; exact h46 h.1)]
end Go.Proofs.YtgjdlimbkjdhjaaGreatDoor.Pr
namespace Go.Proofs.YtgjdlimbkjdhjaaGreatDoor.Pr
set_option linter.unusedVariables false
set_option linter.unusedSimpArgs false
def padN : Nat → Nat → List UInt8
  | 0, _ => []
  | k + 1, u => padN k (u / 10) ++ [UInt8.ofNat (48 + u % 10)]
theorem padN_succ (k u : Nat) : padN (k + 1) u = padN k (u / 10) ++ [UInt8.ofNat (48 + u % 10)] := rfl
theorem padN_length (k : Nat) : ∀ u, (padN k u).length = k := by
  induction k with
  | zero => intro u; rfl
  | succ k ih => intro u; rw [padN_succ, List.length_append, ih]; rfl
theorem dg_of (d : Nat) (h : d < 10) : dg (UInt8.ofNat (48 + d)) = true ∧ (UInt8.ofNat (48 + d)).toNat - 48 = d := by
  have : (UInt8.ofNat (48 + d)).toNat = 48 + d := by rw [UInt8.toNat_ofNat']; omega
  rw [dg_iff, this]
  omega
theorem all_one (c : UInt8) (h : dg c = true) : ([c] : List UInt8).all dg = true := by rw [List.all_cons, h]; rfl
theorem padN_all (k : Nat) : ∀ u, (padN k u).all dg = true := by
  induction k with
  | zero => intro u; rfl
  | succ k ih => intro u; rw [padN_succ, List.all_append, ih, all_one _ (dg_of (u % 10) (Nat.mod_lt _ (by decide))).1]; rfl
theorem padN_val (k : Nat) : ∀ u, dval 0 (padN k u) = u % 10 ^ k := by
  induction k with
  | zero => intro u; rw [Nat.pow_zero, Nat.mod_one]; rfl
  | succ k ih =>
    intro u
    rw [padN_succ, dval_snoc, ih, (dg_of (u % 10) (Nat.mod_lt _ (by decide))).2, Nat.pow_succ, Nat.mul_comm (10 ^ k) 10, Nat.mod_mul]
    omega
theorem padN_front (k : Nat) : ∀ u, padN (k + 1) u = UInt8.ofNat (48 + u / 10 ^ k % 10) :: padN k u := by
  induction k with
  | zero => intro u; rw [Nat.pow_zero, Nat.div_one]; rfl
  | succ k ih =>
    intro u
    rw [padN_succ, ih, padN_succ k u, Nat.div_div_eq_div_mul, Nat.pow_succ, Nat.mul_comm 10 (10 ^ k), List.cons_append]
theorem padN_zero (k : Nat) : padN k 0 = List.replicate k 48 := by
  induction k with
  | zero => rfl
  | succ k ih => rw [padN_succ, Nat.zero_div, ih, List.replicate_succ']; rfl
theorem decDigits_split (k : Nat) : ∀ u, 10 ^ k ≤ u → Lib.decDigits u = Lib.decDigits (u / 10 ^ k) ++ padN k u := by
  induction k with
  | zero => intro u h; rw [Nat.pow_zero, Nat.div_one]; simp [padN]
  | succ k ih =>
    intro u h
    have hp : 0 < 10 ^ k := Nat.pow_pos (by decide)
    rw [Nat.pow_succ] at h
    rw [decDigits_big u (by omega), ih (u / 10) (by omega), Nat.div_div_eq_div_mul, Nat.pow_succ, Nat.mul_comm 10 (10 ^ k), padN_succ, List.append_assoc]
theorem decDigits_pad (k : Nat) : ∀ u, u < 10 ^ (k + 1) → List.replicate (k + 1 - (Lib.decDigits u).length) 48 ++ Lib.decDigits u = padN (k + 1) u := by
  induction k with
  | zero => intro u h; rw [decDigits_small u (by omega)]; rw [padN_succ, Nat.mod_eq_of_lt (by omega)]; rfl
  | succ k ih =>
    intro u h
    by_cases c : u < 10
    · rw [decDigits_small u c, padN_succ, Nat.mod_eq_of_lt c, show u / 10 = 0 by omega, padN_zero]; rfl
    · rw [Nat.pow_succ] at h
      rw [decDigits_big u c, padN_succ, ← ih (u / 10) (by omega), List.length_append, List.append_assoc]
      congr 2
      simp
theorem decDigits_all (f : Nat) : ∀ u, u < 10 ^ (f + 1) → (Lib.decDigits u).all dg = true ∧ dval 0 (Lib.decDigits u) = u := by
  induction f with
  | zero =>
    intro u h
    rw [decDigits_small u (by omega)]
    have := dg_of u (by omega)
    refine ⟨all_one _ this.1, ?_⟩
    rw [dval_cons, dval_nil, this.2]; omega
  | succ f ih =>
    intro u h
    by_cases c : u < 10
    · have := dg_of u c
      rw [decDigits_small u c]
      refine ⟨all_one _ this.1, ?_⟩
      rw [dval_cons, dval_nil, this.2]; omega
    · rw [Nat.pow_succ] at h
      have h1 := ih (u / 10) (by omega)
      have h2 := dg_of (u % 10) (Nat.mod_lt _ (by decide))
      rw [decDigits_big u c]
      refine ⟨by rw [List.all_append, h1.1, all_one _ h2.1]; rfl, ?_⟩
      rw [dval_snoc, h1.2, h2.2]; omega
end Go.Proofs.YtgjdlimbkjdhjaaGreatDoor.Pr
namespace Go.Proofs.YtgjdlimbkjdhjaaGreatDoor.Pr
set_option linter.unusedVariables false
set_option linter.unusedSimpArgs false
open Go.RowKit Go.Proofs.YtgjdlimbkjdhjaaGreatDoorW.PrintWords Go.Proofs.YtgjdlimbkjdhjaaGreatDoorW.PrintMore
theorem wN {a : Int} (h0 : -9223372036854775808 ≤ a) (h1 : a ≤ 9223372036854775807) : wrap64 a = a := by unfold wrap64; omega
theorem num_digits_eq (l : List UInt8) (hl : l.length ≤ 1000) : num_digits.f (bl l) = some (decide (l ≠ []) && l.all dg) := by
  unfold num_digits.f
  simp only [bl_toList]
  by_cases c : l = []
  · subst c; rfl
  · rw [if_neg c]
    have ht : strings_Trim.f (bl l) (⟨#[48, 49, 50, 51, 52, 53, 54, 55, 56, 57]⟩ : ByteArray) = some (bl (Lib.trimS l [48, 49, 50, 51, 52, 53, 54, 55, 56, 57])) := by
      unfold strings_Trim.f
      rw [if_pos ⟨by decide, by decide, by rw [bl_size]; omega⟩, bl_data]
      rfl
    rw [ht, Option.bind_some]
    simp only [bl_toList]
    congr 1
    have h := trimS_nil l [48, 49, 50, 51, 52, 53, 54, 55, 56, 57]
    have hf : (fun x => ([48, 49, 50, 51, 52, 53, 54, 55, 56, 57] : List UInt8).contains x) = dg := funext digits_contains
    rw [hf] at h
    rw [decide_eq_true c, Bool.true_and, Bool.eq_iff_iff, beq_iff_eq, h]
theorem cutPrefix_eq (l : List UInt8) : strings_CutPrefix.f (bl l) (⟨#[45]⟩ : ByteArray) = some (if l.head? = some 45 then (bl l.tail, true) else (bl l, false)) := by
  unfold strings_CutPrefix.f
  rw [bl_data, show (⟨#[45]⟩ : ByteArray).data.toList = [45] from rfl, bl_def]
  unfold Lib.trimPrefix Lib.hasPrefix
  cases l with
  | nil => rfl
  | cons c r =>
    by_cases h : c = 45
    · subst h; simp
    · have h' : ¬ (45 : UInt8) = c := fun e => h e.symm
      simp [h, h', List.isPrefixOf]
theorem cut_eq (c : UInt8) (t : List UInt8) (ht : t.length ≤ 1000) : (c ∉ t ∧ strings_Cut.f (bl t) (⟨#[c]⟩ : ByteArray) = some (bl t, bl [], false)) ∨
    (∃ w p, t = w ++ c :: p ∧ c ∉ w ∧ strings_Cut.f (bl t) (⟨#[c]⟩ : ByteArray) = some (bl w, bl p, true)) := by
  unfold strings_Cut.f
  simp only []
  rw [if_pos (by rw [bl_size]; omega), bl_data]
  by_cases c1 : Lib.indexByte t c = -1
  · left
    rw [if_pos c1]
    refine ⟨?_, rfl⟩
    intro hm
    obtain ⟨k, hk⟩ := List.mem_iff_getElem?.1 hm
    exact Lib.indexByte_none c1 k hk
  · right
    rw [if_neg c1]
    have hge := Lib.indexByte_ge t c
    obtain ⟨o, ho⟩ : ∃ o : Nat, Lib.indexByte t c = o := ⟨(Lib.indexByte t c).toNat, by omega⟩
    obtain ⟨h1, h2⟩ := Lib.indexByte_some ho
    obtain ⟨hlt, hget⟩ := List.getElem?_eq_some_iff.1 h1
    rw [ho, bl_size, if_pos ⟨by omega, by omega⟩, Int.toNat_natCast, bl_extract, bl_extract]
    refine ⟨t.take o, t.drop (o + 1), ?_, ?_, ?_⟩
    · rw [← hget, ← List.drop_eq_getElem_cons hlt, List.take_append_drop]
    · intro hm
      obtain ⟨k, hk⟩ := List.mem_iff_getElem?.1 hm
      rw [List.getElem?_take] at hk
      split at hk
      · rename_i hlt2; exact h2 k hlt2 hk
      · exact absurd hk (by simp)
    · rw [List.drop_zero, List.take_length]
def numP (k : Nat) (m : Bool) (t : ByteArray) : Option (Int × Int) := (strings_Cut.f t (⟨#[46]⟩ : ByteArray)).bind fun bt210 => ((num_digits.f bt210.1).bind fun t213 => (if t213 = true then (if bt210.2.2 = true then ((num_digits.f bt210.2.1).bind fun t214 => (if t214 = true then (num_Parse.j0 k m bt210.1 bt210.2.1 (decide ((bt210.2.1.size : Int) > 6))) else (num_Parse.j0 k m bt210.1 bt210.2.1 true))) else (num_Parse.j0 k m bt210.1 bt210.2.1 false)) else (num_Parse.j0 k m bt210.1 bt210.2.1 true)))
theorem num_Parse_f (k : Nat) (a0 : ByteArray) : num_Parse.f k a0 = if (a0.size : Int) > 40 then (some (0, 5)) else ((strings_CutPrefix.f a0 (⟨#[45]⟩ : ByteArray)).bind fun b => numP k b.2 b.1) := rfl
theorem num_Parse_j0_true (k : Nat) (m : Bool) (w p : ByteArray) : num_Parse.j0 (k + 1) m w p true = some (0, 5) := by
  simp only [num_Parse.j0]; rw [if_pos trivial]
theorem dropWhile_all {p : UInt8 → Bool} (q : UInt8 → Bool) (l : List UInt8) (h : l.all q = true) : (l.dropWhile p).all q = true := by
  induction l with
  | nil => rfl
  | cons c r ih =>
    rw [List.dropWhile_cons]
    simp only [List.all_cons, Bool.and_eq_true] at h
    split
    · exact ih h.2
    · simp [h.1, h.2]
theorem dropWhile_length {p : UInt8 → Bool} (l : List UInt8) : (l.dropWhile p).length ≤ l.length := by
  induction l with
  | nil => exact Nat.le_refl _
  | cons c r ih => rw [List.dropWhile_cons]; split <;> simp <;> omega
theorem frac_eq (p : List UInt8) (hp : p.length ≤ 6) : (p ++ [48, 48, 48, 48, 48, 48]).take 6 = p ++ List.replicate (6 - p.length) 48 := by
  rw [List.take_append, List.take_of_length_le hp, show ([48, 48, 48, 48, 48, 48] : List UInt8) = List.replicate 6 48 from rfl, List.take_replicate, Nat.min_eq_left (by omega)]
theorem zeros_all (n : Nat) : (List.replicate n (48 : UInt8)).all dg = true := by
  induction n with
  | zero => rfl
  | succ n ih => rw [List.replicate_succ, List.all_cons, ih]; rfl
theorem frac_lt (p : List UInt8) (h : p.all dg = true) (hp : p.length ≤ 6) : frac p < 1000000 := by
  have := dval_lt (p ++ List.replicate (6 - p.length) 48) (by rw [List.all_append, h, zeros_all]; rfl)
  rw [List.length_append, List.length_replicate, show p.length + (6 - p.length) = 6 by omega] at this
  exact this
theorem num_Parse_j0_eq (k : Nat) (m : Bool) (w p : List UInt8) (hw : w.all dg = true) (hl : w.length ≤ 40) (hp : p.all dg = true) (hpl : p.length ≤ 6) :
    num_Parse.j0 (k + 1) m (bl w) (bl p) false = some (numFin m (dval 0 w) (frac p)) := by
  simp only [num_Parse.j0]
  rw [if_neg (show ¬ (false = true) by decide)]
  have ht : strings_TrimLeft.f (bl w) (⟨#[48]⟩ : ByteArray) = some (bl (w.dropWhile ([48].contains ·))) := by
    unfold strings_TrimLeft.f
    rw [if_pos ⟨by decide, by decide⟩, bl_data]
    rfl
  rw [ht, Option.bind_some]
  rw [← dval_lead w]
  have hv := dropWhile_all (p := ([48].contains ·)) dg w hw
  have hvl := dropWhile_length (p := ([48].contains ·)) w
  have hv0 : (w.dropWhile ([48].contains ·)).head? ≠ some 48 := by
    intro h
    cases hd : w.dropWhile ([48].contains ·) with
    | nil => rw [hd] at h; exact absurd h (by simp)
    | cons c r =>
      have := dropWhile_head hd
      rw [hd] at h
      simp only [List.head?_cons, Option.some.injEq] at h
      rw [h] at this
      exact absurd this (by decide)
  generalize w.dropWhile ([48].contains ·) = v at *
  have hf := frac_lt p hp hpl
  rw [bl_size]
  by_cases c : (v.length : Int) > 13
  · rw [if_pos c]
    have hb := dval_big v hv hv0 (by intro h; subst h; simp at c)
    have h10 : 10 ^ 13 ≤ 10 ^ (v.length - 1) := Nat.pow_le_pow_right (by decide) (by omega)
    unfold numFin
    rw [if_pos (by omega)]
  · have hb := dval_lt v hv
    have h10 : 10 ^ v.length ≤ 10 ^ 13 := Nat.pow_le_pow_right (by decide) (by omega)
    rw [if_neg c, if_pos (by omega), bl_size, if_pos (by omega), if_pos (by decide), show (⟨#[48, 48, 48, 48, 48, 48]⟩ : ByteArray) = bl [48, 48, 48, 48, 48, 48] from rfl, show (⟨#[48]⟩ : ByteArray) = bl [48] from rfl, bl_append, bl_append, bl_size, if_pos (by simp; omega), bl_extract, List.drop_zero, frac_eq p hpl, bl_size, bl_size, if_pos (by simp; omega), bl_append]
    have hd : dval 0 ([48] ++ v ++ (p ++ List.replicate (6 - p.length) 48)) = dval 0 v * 1000000 + frac p := by
      rw [dval_append, dval_add (p ++ List.replicate (6 - p.length) 48), dval_append, List.length_append, List.length_replicate, show p.length + (6 - p.length) = 6 by omega]
      rfl
    have hall : ([48] ++ v ++ (p ++ List.replicate (6 - p.length) 48)).all dg = true := by
      rw [List.all_append, List.all_append, List.all_append, hv, hp, zeros_all]; rfl
    have hpu : strconv_ParseUint.f (bl ([48] ++ v ++ (p ++ List.replicate (6 - p.length) 48))) 10 64 = some (((dval 0 v * 1000000 + frac p : Nat) : Int), none) := by
      unfold strconv_ParseUint.f
      rw [if_pos ⟨rfl, rfl, by rw [bl_size]; simp; omega⟩, bl_data, parseUintB_ok _ hall (by simp) (by rw [hd]; omega), hd]
    rw [hpu, Option.bind_some]
    generalize hx : dval 0 v * 1000000 + frac p = x
    have hx2 : x < 10000000000000000000 := by omega
    simp only []
    unfold numFin
    rw [hx]
    by_cases c2 : 1000000000000000000 < x
    · rw [if_pos (by omega), if_pos c2]
    · rw [if_neg (by omega), if_neg c2]
      cases m with
      | true => rw [if_pos rfl, if_pos rfl, wN (a := (x : Int)) (by omega) (by omega), wN (by omega) (by omega)]
      | false => rw [if_neg (by decide), if_neg (by decide), wN (by omega) (by omega)]
theorem frac_nil : frac [] = 0 := by decide
theorem numP_eq (k : Nat) (m : Bool) (t : List UInt8) (ht : t.length ≤ 40) : numP (k + 1) m (bl t) = some (numT m t) := by
  unfold numP
  rcases cut_eq 46 t (by omega) with ⟨h46, hc⟩ | ⟨w, p, rfl, h46, hc⟩
  · rw [hc, Option.bind_some]
    simp only []
    rw [num_digits_eq t (by omega), Option.bind_some]
    by_cases c1 : t.all dg = true
    · have hn : numT m t = numR m t [] := by
        have := numT_of (r := []) m c1 (by intro c h; exact absurd h (by simp))
        rwa [List.append_nil] at this
      rw [hn]
      by_cases c2 : t = []
      · subst c2
        rw [if_neg (by decide), num_Parse_j0_true]
        rfl
      · rw [if_pos (by rw [c1, decide_eq_true c2]; rfl), if_neg (show ¬ (false = true) by decide), num_Parse_j0_eq k m t [] c1 ht rfl (by decide), frac_nil]
        unfold numR
        rw [if_neg c2]
    · rw [if_neg (by intro h; rw [Bool.and_eq_true] at h; exact c1 h.2), num_Parse_j0_true]
      have := numT_bad (r := []) m c1 h46
      rw [List.append_nil] at this
      rw [this]
  · rw [hc, Option.bind_some]
    simp only [List.length_append, List.length_cons] at ht
    simp only []
    rw [num_digits_eq w (by omega), Option.bind_some]
    by_cases c1 : w.all dg = true
    · have hn := numT_of (r := 46 :: p) m c1 (by intro c h; simp only [List.head?_cons, Option.some.injEq] at h; rw [← h]; rfl)
      rw [hn]
      by_cases c2 : w = []
      · subst c2
        rw [if_neg (by decide), num_Parse_j0_true]
        rfl
      · rw [if_pos (by rw [c1, decide_eq_true c2]; rfl), if_pos trivial, num_digits_eq p (by omega), Option.bind_some]
        unfold numR
        rw [if_neg c2]
        simp only []
        by_cases c3 : p.all dg = true
        · by_cases c4 : p = []
          · rw [if_neg (by intro h; rw [Bool.and_eq_true] at h; exact absurd (of_decide_eq_true h.1) (by simp [c4])), num_Parse_j0_true, if_neg (by intro h; exact h.2.1 c4)]
          · rw [if_pos (by rw [c3, decide_eq_true c4]; rfl), bl_size]
            by_cases c5 : p.length ≤ 6
            · rw [decide_eq_false (by omega), num_Parse_j0_eq k m w p c1 (by omega) c3 c5, if_pos ⟨trivial, c4, c5, c3⟩]
            · rw [decide_eq_true (by omega), num_Parse_j0_true, if_neg (by intro h; exact c5 h.2.2.1)]
        · rw [if_neg (by intro h; rw [Bool.and_eq_true] at h; exact c3 h.2), num_Parse_j0_true, if_neg (by intro h; exact c3 h.2.2.2)]
    · rw [if_neg (by intro h; rw [Bool.and_eq_true] at h; exact c1 h.2), num_Parse_j0_true, numT_bad m c1 h46]
theorem num_Parse_eq (k : Nat) (hk : 1 ≤ k) (l : List UInt8) : num_Parse.f k (bl l) = some (numL l) := by
  obtain ⟨k, rfl⟩ : ∃ q, k = q + 1 := ⟨k - 1, by omega⟩
  rw [num_Parse_f, bl_size]
  unfold numL
  by_cases c : 40 < l.length
  · rw [if_pos c, if_pos (by omega)]
  · rw [if_neg c, if_neg (by omega), cutPrefix_eq, Option.bind_some]
    by_cases c2 : l.head? = some 45
    · rw [if_pos c2, if_pos c2]
      simp only []
      rw [numP_eq k true _ (by simp; omega)]
    · rw [if_neg c2, if_neg c2]
      simp only []
      rw [numP_eq k false _ (by omega)]
end Go.Proofs.YtgjdlimbkjdhjaaGreatDoor.Pr
namespace Go.Proofs.YtgjdlimbkjdhjaaGreatDoor.Pr
set_option linter.unusedVariables false
set_option linter.unusedSimpArgs false
open Go.RowKit Go.Proofs.YtgjdlimbkjdhjaaGreatDoorW.PrintWords Go.Proofs.YtgjdlimbkjdhjaaGreatDoorW.PrintMore
end Go.Proofs.YtgjdlimbkjdhjaaGreatDoor.Pr
namespace Go.Proofs.YtgjdlimbkjdhjaaGreatDoor.Pr
set_option linter.unusedVariables false
set_option linter.unusedSimpArgs false
open Go.RowKit Go.Proofs.YtgjdlimbkjdhjaaGreatDoorW.PrintWords Go.Proofs.YtgjdlimbkjdhjaaGreatDoorW.PrintMore
theorem decDigits_six (u : Nat) (h : u < 10 ^ 20) : List.replicate (7 - (Lib.decDigits u).length) 48 ++ Lib.decDigits u = Lib.decDigits (u / 1000000) ++ padN 6 u := by
  by_cases c : 1000000 ≤ u
  · have hs := decDigits_split 6 u c
    have hl := decDigits_length 19 (u / 10 ^ 6) (by omega)
    have : (Lib.decDigits u).length = (Lib.decDigits (u / 10 ^ 6)).length + 6 := by
      conv => lhs; rw [hs]
      rw [List.length_append, padN_length]
    rw [show 7 - (Lib.decDigits u).length = 0 by omega, hs]
    rfl
  · rw [decDigits_pad 6 u (by omega), padN_front, show u / 1000000 = 0 by omega, decDigits_small 0 (by decide)]
    rfl
def trimZ (l : List UInt8) : List UInt8 := Lib.trimRightS l [48]
theorem trimZ_rev (m : List UInt8) : trimZ m.reverse = (m.dropWhile ([48].contains ·)).reverse := by unfold trimZ Lib.trimRightS; rw [List.reverse_reverse]
theorem trimZ_pad (l : List UInt8) : (trimZ l).length ≤ l.length ∧ trimZ l ++ List.replicate (l.length - (trimZ l).length) 48 = l := by
  rw [show l = l.reverse.reverse by rw [List.reverse_reverse]]
  generalize l.reverse = m
  rw [trimZ_rev]
  induction m with
  | nil => exact ⟨Nat.le_refl _, rfl⟩
  | cons c r ih =>
    rw [List.dropWhile_cons]
    split
    · rename_i hc
      rw [Lib.contains_one] at hc
      have hc2 := eq_of_beq hc
      refine ⟨by have := ih.1; simp at this ⊢; omega, ?_⟩
      have h1 := ih.1
      rw [show (c :: r).reverse.length - (r.dropWhile ([48].contains ·)).reverse.length = (r.reverse.length - (r.dropWhile ([48].contains ·)).reverse.length) + 1 by simp at h1 ⊢; omega, List.replicate_succ', ← List.append_assoc, ih.2, List.reverse_cons, hc2]
    · exact ⟨Nat.le_refl _, by simp⟩
def fracL (u : Nat) : List UInt8 := if trimZ (padN 6 u) = [] then [] else 46 :: trimZ (padN 6 u)
def signL (n : Int) : List UInt8 := if n < 0 then [45] else []
def printL (n : Int) : List UInt8 := signL n ++ (Lib.decDigits (n.natAbs / 1000000) ++ fracL n.natAbs)
def fitB (n : Int) : Bool := decide (-1000000000000000000 ≤ n ∧ n ≤ 1000000000000000000)
theorem num_Fits_fit (n : Int) : num_Fits.f n = some (fitB n) := by
  unfold num_Fits.f fitB
  by_cases c : n ≥ -1000000000000000000
  · rw [if_pos c]; congr 1; rw [decide_eq_decide]; omega
  · rw [if_neg c]; congr 1; exact (decide_eq_false (by omega)).symm
theorem mx_abs (n : Int) (h : -1000000000000000000 ≤ n ∧ n ≤ 1000000000000000000) : mx n (wrap64 (-n)) = (n.natAbs : Int) := by
  rw [wN (by omega) (by omega)]
  unfold mx
  split <;> omega
theorem num_Print_fit (n : Int) (h : -1000000000000000000 ≤ n ∧ n ≤ 1000000000000000000) : num_Print.f n = some (bl (printL n), 0) := by
  have hu : n.natAbs ≤ 1000000000000000000 := by omega
  unfold num_Print.f
  rw [num_Fits_fit, Option.bind_some, show fitB n = true from decide_eq_true h, if_pos rfl, mx_abs n h]
  have hneg : (n < 0) ∨ ¬ (n < 0) := by omega
  have hsg : signL n = if n < 0 then [45] else [] := rfl
  unfold printL
  generalize n.natAbs = u at *
  have hi : strconv_Itoa.f (u : Int) = some (bl (Lib.decDigits u)) := by
    unfold strconv_Itoa.f
    rw [if_pos (by omega), bl_def]
    have hi : Lib.itoa (u : Int) = Lib.decDigits u := by unfold Lib.itoa; rw [if_neg (by omega), Int.toNat_natCast]
    rw [hi]
  have hl := decDigits_length 19 u (by omega)
  rw [hi, Option.bind_some, bl_size]
  have hm : mx 0 (wrap64 (7 - ((Lib.decDigits u).length : Int))) = ((7 - (Lib.decDigits u).length : Nat) : Int) := by
    rw [wN (by omega) (by omega)]
    unfold mx
    split <;> omega
  have hr : strings_Repeat.f (⟨#[48]⟩ : ByteArray) ((7 - (Lib.decDigits u).length : Nat) : Int) = some (bl (List.replicate (7 - (Lib.decDigits u).length) 48)) := by
    unfold strings_Repeat.f
    have h1 : (⟨#[48]⟩ : ByteArray).size = 1 := rfl
    rw [if_pos ⟨by omega, by omega, by rw [h1, Int.toNat_natCast]; omega⟩, Int.toNat_natCast]
    rw [show (⟨#[48]⟩ : ByteArray).data.toList = [48] from rfl, repeat_one, bl_def]
  rw [hm, hr, Option.bind_some, bl_size, if_pos (by simp; omega), bl_append, decDigits_six u (by omega), bl_size]
  have hl2 := decDigits_length 19 (u / 1000000) (by omega)
  have hlen : (Lib.decDigits (u / 1000000) ++ padN 6 u).length = (Lib.decDigits (u / 1000000)).length + 6 := by rw [List.length_append, padN_length]
  rw [hlen, show wrap64 ((((Lib.decDigits (u / 1000000)).length + 6 : Nat) : Int) - 6) = ((Lib.decDigits (u / 1000000)).length : Int) by rw [wN (by omega) (by omega)]; omega, if_pos (by omega), if_pos (by omega), Int.toNat_natCast]
  have e1 : (bl (Lib.decDigits (u / 1000000) ++ padN 6 u)).extract 0 (Lib.decDigits (u / 1000000)).length = bl (Lib.decDigits (u / 1000000)) := by
    rw [bl_extract, List.drop_zero, List.take_left]
  have e2 : (bl (Lib.decDigits (u / 1000000) ++ padN 6 u)).extract (Lib.decDigits (u / 1000000)).length ((Lib.decDigits (u / 1000000)).length + 6) = bl (padN 6 u) := by
    rw [bl_extract, ← hlen, List.take_length, List.drop_left]
  have ht : strings_TrimRight.f (bl (padN 6 u)) (⟨#[48]⟩ : ByteArray) = some (bl (trimZ (padN 6 u))) := by
    unfold strings_TrimRight.f
    rw [if_pos ⟨by decide, by decide, by rw [bl_size, padN_length]; decide⟩, bl_data]
    rfl
  have hz := (trimZ_pad (padN 6 u)).1
  rw [padN_length] at hz
  rw [e1, e2, ht, Option.bind_some, show (⟨#[45]⟩ : ByteArray) = bl [45] from rfl, show (⟨#[46]⟩ : ByteArray) = bl [46] from rfl]
  simp only [bl_toList, bl_append, bl_size]
  unfold fracL
  by_cases c : trimZ (padN 6 u) = []
  · rw [if_pos c, if_pos c, List.append_nil]
    rcases hneg with hn | hn
    · rw [if_pos hn, if_pos (by omega), hsg, if_pos hn]
    · rw [if_neg hn, hsg, if_neg hn, List.nil_append]
  · rw [if_neg c, if_neg c, if_pos (by omega), if_pos (by simp; omega)]
    rcases hneg with hn | hn
    · rw [if_pos hn, if_pos (by simp; omega), hsg, if_pos hn]; rfl
    · rw [if_neg hn, hsg, if_neg hn, List.nil_append]; rfl
theorem num_Print_all (n : Int) : num_Print.f n = some (if fitB n = true then (bl (printL n), 0) else (bl [], 2)) := by
  by_cases c : fitB n = true
  · rw [if_pos c, num_Print_fit n (of_decide_eq_true c)]
  · rw [if_neg c]
    unfold num_Print.f
    rw [num_Fits_fit, Option.bind_some, if_neg c]
    rfl
theorem numL_printL (n : Int) (h : -1000000000000000000 ≤ n ∧ n ≤ 1000000000000000000) : numL (printL n) = (n, 0) := by
  have hu : n.natAbs ≤ 1000000000000000000 := by omega
  have hn : n = if n < 0 then -(n.natAbs : Int) else (n.natAbs : Int) := by split <;> omega
  have hsg : signL n = if n < 0 then [45] else [] := rfl
  unfold printL
  generalize n.natAbs = u at *
  have hl := decDigits_length 12 (u / 1000000) (by omega)
  obtain ⟨ha, hv⟩ := decDigits_all 12 (u / 1000000) (by omega)
  obtain ⟨hz1, hz2⟩ := trimZ_pad (padN 6 u)
  rw [padN_length] at hz1 hz2
  have hzall : (trimZ (padN 6 u)).all dg = true := by
    have := padN_all 6 u
    rw [← hz2, List.all_append, Bool.and_eq_true] at this
    exact this.1
  have hfl : (fracL u).length ≤ 7 := by unfold fracL; split <;> simp; omega
  have hT : ∀ m, numT m (Lib.decDigits (u / 1000000) ++ fracL u) = (if m = true then -(u : Int) else (u : Int), 0) := by
    intro m
    have hne : Lib.decDigits (u / 1000000) ≠ [] := by intro h; rw [h] at hl; simp at hl
    have hfin : ∀ F, F = u % 1000000 → numFin m (dval 0 (Lib.decDigits (u / 1000000))) F = (if m = true then -(u : Int) else (u : Int), 0) := by
      intro F hF
      unfold numFin
      rw [hv, hF, show u / 1000000 * 1000000 + u % 1000000 = u by omega, if_neg (by omega)]
    have hfr : frac (trimZ (padN 6 u)) = u % 1000000 := by
      unfold frac; rw [hz2, padN_val]
    rw [numT_of m ha (by unfold fracL; intro c hc; split at hc; exact absurd hc (by simp); simp only [List.head?_cons, Option.some.injEq] at hc; rw [← hc]; rfl)]
    unfold numR fracL
    rw [if_neg hne]
    by_cases c : trimZ (padN 6 u) = []
    · rw [if_pos c]
      rw [c, frac_nil] at hfr
      exact hfin 0 hfr
    · rw [if_neg c]
      simp only []
      rw [if_pos ⟨trivial, c, hz1, hzall⟩]
      exact hfin _ hfr
  unfold numL
  rw [if_neg (by have : (signL n).length ≤ 1 := (by rw [hsg]; split <;> simp)
                 simp only [List.length_append]; omega), hsg]
  by_cases c : n < 0
  · rw [if_pos c] at hn ⊢
    have hT1 := hT true
    generalize Lib.decDigits (u / 1000000) ++ fracL u = t at *
    have hh : (([45] : List UInt8) ++ t).head? = some (45 : UInt8) := rfl
    have ht : (([45] : List UInt8) ++ t).tail = t := rfl
    rw [if_pos hh, ht, hT1, if_pos rfl, ← hn]
  · rw [if_neg c] at hn ⊢
    rw [List.nil_append]
    have hh : (Lib.decDigits (u / 1000000) ++ fracL u).head? ≠ some 45 := by
      cases hd : Lib.decDigits (u / 1000000) with
      | nil => rw [hd] at hl; simp at hl
      | cons b r =>
        rw [hd] at ha
        simp only [List.all_cons, Bool.and_eq_true] at ha
        have := (dg_iff b).1 ha.1
        intro h
        simp only [List.cons_append, List.head?_cons, Option.some.injEq] at h
        rw [h] at this
        exact absurd this.1 (by decide)
    rw [if_neg hh, hT false, if_neg (by decide), ← hn]
theorem numFin_fit (m : Bool) (W F : Nat) : (numFin m W F).2 = 0 → -1000000000000000000 ≤ (numFin m W F).1 ∧ (numFin m W F).1 ≤ 1000000000000000000 := by
  unfold numFin
  split
  · intro h; exact absurd h (by decide)
  · intro _; cases m <;> simp <;> omega
theorem numL_cases (l : List UInt8) : numL l = (0, 5) ∨ ∃ m W F, numL l = numFin m W F := by
  have hR : ∀ s w r, numR s w r = (0, 5) ∨ ∃ m W F, numR s w r = numFin m W F := by
    intro s w r
    unfold numR
    split
    · exact .inl rfl
    · split
      · exact .inr ⟨_, _, _, rfl⟩
      · split
        · exact .inr ⟨_, _, _, rfl⟩
        · exact .inl rfl
  unfold numL
  split
  · exact .inl rfl
  · split
    · unfold numT; exact hR _ _ _
    · unfold numT; exact hR _ _ _
theorem numL_fit (l : List UInt8) (h : (numL l).2 = 0) : -1000000000000000000 ≤ (numL l).1 ∧ (numL l).1 ≤ 1000000000000000000 := by
  rcases numL_cases l with h1 | ⟨m, W, F, h1⟩
  · rw [h1] at h; exact absurd h (by decide)
  · rw [h1] at h ⊢; exact numFin_fit m W F h
end Go.Proofs.YtgjdlimbkjdhjaaGreatDoor.Pr
end
section
namespace Go.Proofs.YtgjdlimbkjdhjaaGreatDoor.Pr
set_option linter.unusedVariables false
set_option linter.unusedSimpArgs false
open Go.RowKit Go.Proofs.YtgjdlimbkjdhjaaGreatDoorW.PrintWords Go.Proofs.YtgjdlimbkjdhjaaGreatDoorW.PrintMore
def rightB (K n : Int) (s : List UInt8) (b : Bool) (c : Int) : Bool :=
  if K = 0 then n == 0 && (s == [] && (!b && c == 0))
  else if K = 1 then fitB n && (s == [] && (!b && c == 0))
  else if K = 2 then decide (s.length ≤ 255) && (n == 0 && (!b && c == 0))
  else if K = 3 then n == 0 && (s == [] && c == 0)
  else if K = 4 then decide (1 ≤ c ∧ c ≤ 7) && (n == 0 && (s == [] && !b))
  else false
theorem rightB_cases {K n : Int} {s : List UInt8} {b : Bool} {c : Int} (h : rightB K n s b c = true) :
    (K = 0 ∧ n = 0 ∧ s = [] ∧ b = false ∧ c = 0) ∨ (K = 1 ∧ fitB n = true ∧ s = [] ∧ b = false ∧ c = 0) ∨ (K = 2 ∧ s.length ≤ 255 ∧ n = 0 ∧ b = false ∧ c = 0) ∨ (K = 3 ∧ n = 0 ∧ s = [] ∧ c = 0) ∨ (K = 4 ∧ 1 ≤ c ∧ c ≤ 7 ∧ n = 0 ∧ s = [] ∧ b = false) := by
  unfold rightB at h
  by_cases k0 : K = 0
  · rw [if_pos k0] at h
    simp only [Bool.and_eq_true, beq_iff_eq, Bool.not_eq_true'] at h
    exact Or.inl ⟨k0, h.1, h.2.1, h.2.2.1, h.2.2.2⟩
  rw [if_neg k0] at h
  by_cases k1 : K = 1
  · rw [if_pos k1] at h
    simp only [Bool.and_eq_true, beq_iff_eq, Bool.not_eq_true'] at h
    exact Or.inr (Or.inl ⟨k1, h.1, h.2.1, h.2.2.1, h.2.2.2⟩)
  rw [if_neg k1] at h
  by_cases k2 : K = 2
  · rw [if_pos k2] at h
    simp only [Bool.and_eq_true, beq_iff_eq, Bool.not_eq_true', decide_eq_true_eq] at h
    exact Or.inr (Or.inr (Or.inl ⟨k2, h.1, h.2.1, h.2.2.1, h.2.2.2⟩))
  rw [if_neg k2] at h
  by_cases k3 : K = 3
  · rw [if_pos k3] at h
    simp only [Bool.and_eq_true, beq_iff_eq, Bool.not_eq_true'] at h
    exact Or.inr (Or.inr (Or.inr (Or.inl ⟨k3, h.1, h.2.1, h.2.2⟩)))
  rw [if_neg k3] at h
  by_cases k4 : K = 4
  · rw [if_pos k4] at h
    simp only [Bool.and_eq_true, beq_iff_eq, Bool.not_eq_true', decide_eq_true_eq] at h
    exact Or.inr (Or.inr (Or.inr (Or.inr ⟨k4, h.1.1, h.1.2, h.2.1, h.2.2.1, h.2.2.2⟩)))
  rw [if_neg k4] at h
  cases h
theorem n24 : ¬ ((2 : Int) = 4) := by decide
theorem n21 : ¬ ((2 : Int) = 1) := by decide
theorem bl_sz (s : List UInt8) : ((bl s).size : Int) = (s.length : Int) := by rw [bl_size]
theorem value_Check_eq (K n : Int) (s : List UInt8) (b : Bool) (c : Int) : value_Check.f K n (bl s) b c = some (if rightB K n s b c = true then 0 else 2) := by
  unfold value_Check.f rightB
  rw [num_Fits_fit]
  simp only [bl_toList, bl_sz, Option.bind_some]
  by_cases k0 : K = 0
  · simp only [if_pos k0, Bool.and_eq_true, beq_iff_eq, Bool.not_eq_true']
  simp only [if_neg k0]
  by_cases k1 : K = 1
  · simp only [if_pos k1, Bool.and_eq_true, beq_iff_eq, Bool.not_eq_true']
  simp only [if_neg k1]
  by_cases k2 : K = 2
  · simp only [if_pos k2, Bool.and_eq_true, beq_iff_eq, Bool.not_eq_true', decide_eq_true_eq]
    congr 1
    by_cases hl : s.length ≤ 255
    · simp only [hl, show ((s.length : Int) ≤ 255) = True from eq_true (by omega)]
    · simp only [hl, show ((s.length : Int) ≤ 255) = False from eq_false (by omega)]
  simp only [if_neg k2]
  by_cases k3 : K = 3
  · simp only [if_pos k3, Bool.and_eq_true, beq_iff_eq, Bool.not_eq_true']
  simp only [if_neg k3]
  by_cases k4 : K = 4
  · simp only [if_pos k4, Bool.and_eq_true, beq_iff_eq, Bool.not_eq_true', decide_eq_true_eq, and_assoc]
    congr 1
  simp only [if_neg k4]
  rfl
def foldL (l : List UInt8) : List UInt8 := l.map up
theorem value_Fold_eq (l : List UInt8) (h : l.length ≤ 140737488351232) : value_Fold.f (bl l) = some (bl (foldL l)) := by
  unfold value_Fold.f
  rw [if_pos (by rw [bl_size]; exact h)]
  unfold foldB foldL
  rw [bl_data]; rfl
def TRUEL : List UInt8 := [84, 82, 85, 69]
def FALSEL : List UInt8 := [70, 65, 76, 83, 69]
def truP (s : List UInt8) : Bool × Bool := (foldL s == TRUEL, foldL s == TRUEL || foldL s == FALSEL)
theorem value_truth_eq (l : List UInt8) (h : l.length ≤ 140737488351232) : value_truth.f (bl l) = some (truP l) := by
  unfold value_truth.f truP TRUEL FALSEL
  rw [value_Fold_eq l h, Option.bind_some, bl_toList]
  by_cases c : foldL l = [84, 82, 85, 69]
  · rw [if_pos c]; simp [c]
  · rw [if_neg c]; simp [c]
def wordsP (K n : Int) (s : List UInt8) (b : Bool) (c : Int) : List UInt8 × Int :=
  if rightB K n s b c = true then (if K = 4 then ([], c) else if K = 1 then (printL n, 0) else if K = 3 then (if b = true then TRUEL else FALSEL, 0) else (s, 0)) else ([], 2)
theorem value_code_eq (K n : Int) (s : List UInt8) (b : Bool) (c : Int) : value_code.f K n (bl s) b c = some (if rightB K n s b c = true then c else 2) := by
  unfold value_code.f
  rw [value_Check_eq, Option.bind_some]
  cases rightB K n s b c <;> rfl
theorem value_Words_eq (K n : Int) (s : List UInt8) (b : Bool) (c : Int) : value_Words.f K n (bl s) b c = some (bl (wordsP K n s b c).1, (wordsP K n s b c).2) := by
  unfold value_Words.f wordsP
  rw [value_code_eq, Option.bind_some]
  cases h : rightB K n s b c with
  | false => rfl
  | true =>
    rcases rightB_cases h with ⟨rfl, rfl, rfl, rfl, rfl⟩ | ⟨rfl, hf, rfl, rfl, rfl⟩ | ⟨rfl, hl, rfl, rfl, rfl⟩ | ⟨rfl, rfl, rfl, rfl⟩ | ⟨rfl, h1, h7, rfl, rfl, rfl⟩
    · rfl
    · simp only [if_true]
      rw [num_Print_all, if_pos hf]; rfl
    · rfl
    · cases b <;> rfl
    · simp only [if_true]
      rw [if_neg (by omega)]; rfl
end Go.Proofs.YtgjdlimbkjdhjaaGreatDoor.Pr
namespace Go.Proofs.YtgjdlimbkjdhjaaGreatDoor.Pr
set_option linter.unusedVariables false
set_option linter.unusedSimpArgs false
open Go.RowKit Go.Proofs.YtgjdlimbkjdhjaaGreatDoorW.PrintWords Go.Proofs.YtgjdlimbkjdhjaaGreatDoorW.PrintMore
def nameL (c : Int) : List UInt8 := (nameZ c).data.toList
theorem nameZ_bl (c : Int) : nameZ c = bl (nameL c) := (bl_of _).symm
def showP (K n : Int) (s : List UInt8) (b : Bool) (c : Int) : List UInt8 × Int :=
  if rightB K n s b c = true then (if K = 4 then (nameL c, 0) else ((wordsP K n s b c).1, 0)) else ([], 2)
theorem value_Show_eq (K n : Int) (s : List UInt8) (b : Bool) (c : Int) : value_Show.f K n (bl s) b c = some (bl (showP K n s b c).1, (showP K n s b c).2) := by
  unfold value_Show.f showP
  rw [value_Check_eq, Option.bind_some]
  cases h : rightB K n s b c with
  | false => rfl
  | true =>
    simp only [if_true]
    rw [value_Words_eq, Option.bind_some]
    rcases rightB_cases h with ⟨rfl, rfl, rfl, rfl, rfl⟩ | ⟨rfl, hf, rfl, rfl, rfl⟩ | ⟨rfl, hl, rfl, rfl, rfl⟩ | ⟨rfl, rfl, rfl, rfl⟩ | ⟨rfl, h1, h7, rfl, rfl, rfl⟩
    · unfold wordsP; rw [if_pos h]; rfl
    · unfold wordsP; rw [if_pos h]; rfl
    · unfold wordsP; rw [if_pos h]; rfl
    · unfold wordsP; rw [if_pos h]; rfl
    · unfold wordsP
      rw [if_pos h]
      simp only [if_true]
      rw [if_neg (by omega), if_pos ⟨h1, h7⟩, nameZ_bl]
def readP (s : List UInt8) : Int × Int × List UInt8 × Bool × Int × Int :=
  if s = [] then (0, 0, [], false, 0, 0) else if (numL s).2 = 0 then (1, (numL s).1, [], false, 0, 0) else if (truP s).2 = true then (3, 0, [], (truP s).1, 0, 0) else match nameOf (bl s) with
  | some i => (4, 0, [], false, i, 0)
  | none => if s.length ≤ 255 then (2, 0, s, false, 0, 0) else (0, 0, [], false, 0, 7)
def toB (r : Int × Int × List UInt8 × Bool × Int × Int) : Int × Int × ByteArray × Bool × Int × Int := (r.1, r.2.1, bl r.2.2.1, r.2.2.2.1, r.2.2.2.2.1, r.2.2.2.2.2)
theorem bl_nm0 (s : List UInt8) : (bl s = nm0) = (s = []) := by
  refine propext ⟨fun h => ?_, fun h => by subst h; rfl⟩
  exact bl_inj (a := s) (b := []) h
theorem value_Read_eq (k : Nat) (hk : 1 ≤ k) (s : List UInt8) (hs : s.length ≤ 140737488351232) : value_Read.f k (bl s) = some (toB (readP s)) := by
  unfold value_Read.f readP
  simp only [bl_nm0]
  by_cases c0 : s = []
  · rw [if_pos c0, if_pos c0]; rfl
  rw [if_neg c0, if_neg c0, num_Parse_eq k hk, Option.bind_some]
  by_cases c1 : (numL s).2 = 0
  · rw [if_pos c1, if_pos c1]; rfl
  rw [if_neg c1, if_neg c1, value_truth_eq s hs, Option.bind_some]
  by_cases c2 : (truP s).2 = true
  · rw [if_pos c2, if_pos c2]; rfl
  rw [if_neg c2, if_neg c2]
  cases nameOf (bl s) with
  | some i => rfl
  | none =>
    simp only [bl_sz]
    by_cases c3 : s.length ≤ 255
    · rw [if_pos (by omega), if_pos c3]; rfl
    · rw [if_neg (by omega), if_neg c3]; rfl
end Go.Proofs.YtgjdlimbkjdhjaaGreatDoor.Pr
namespace Go.Proofs.YtgjdlimbkjdhjaaGreatDoor.Pr
set_option linter.unusedVariables false
set_option linter.unusedSimpArgs false
open Go.RowKit Go.Proofs.YtgjdlimbkjdhjaaGreatDoorW.PrintWords Go.Proofs.YtgjdlimbkjdhjaaGreatDoorW.PrintMore
def cmpZ (a b : Int) : Int := if a < b then -1 else if b < a then 1 else 0
theorem z21 : cmpZ 2 1 = 1 := by decide
end Go.Proofs.YtgjdlimbkjdhjaaGreatDoor.Pr
namespace Go.Proofs.YtgjdlimbkjdhjaaGreatDoor.Pr
set_option linter.unusedVariables false
set_option linter.unusedSimpArgs false
open Go.RowKit Go.Proofs.YtgjdlimbkjdhjaaGreatDoorW.PrintWords Go.Proofs.YtgjdlimbkjdhjaaGreatDoorW.PrintMore
theorem value_lives2 : foolscaplaw04_lives.f 2498 = some true := by decide +kernel
theorem printL_len (n : Int) (h : fitB n = true) : (printL n).length ≤ 40 := by
  have h' := of_decide_eq_true h
  refine Nat.le_of_not_lt fun hlt => ?_
  have := numL_printL n h'
  unfold numL at this
  rw [if_pos hlt] at this
  exact absurd (Prod.mk.inj this).2 (by decide)
theorem printL_ne (n : Int) (h : fitB n = true) : ¬ printL n = [] := by
  intro h0
  have := numL_printL n (of_decide_eq_true h)
  rw [h0] at this
  exact absurd (Prod.mk.inj this).2 (by decide)
theorem read_show (K n : Int) (s : List UInt8) (b : Bool) (c : Int) (h : rightB K n s b c = true) (hK : ¬ K = 2) : readP (showP K n s b c).1 = (K, n, s, b, c, 0) := by
  unfold showP
  rw [if_pos h]
  rcases rightB_cases h with ⟨rfl, rfl, rfl, rfl, rfl⟩ | ⟨rfl, hf, rfl, rfl, rfl⟩ | ⟨rfl, hl, rfl, rfl, rfl⟩ | ⟨rfl, rfl, rfl, rfl⟩ | ⟨rfl, h1, h7, rfl, rfl, rfl⟩
  · rfl
  · rw [if_neg (by decide)]
    unfold wordsP
    rw [if_pos h, if_neg (by decide), if_pos rfl]
    unfold readP
    simp only
    rw [if_neg (printL_ne n hf), numL_printL n (of_decide_eq_true hf), if_pos rfl]
  · exact absurd rfl hK
  · cases b <;> decide +kernel
  · clear h
    have hc : c = 1 ∨ c = 2 ∨ c = 3 ∨ c = 4 ∨ c = 5 ∨ c = 6 ∨ c = 7 := by omega
    rcases hc with rfl | rfl | rfl | rfl | rfl | rfl | rfl <;> decide +kernel
theorem show_ok (K n : Int) (s : List UInt8) (b : Bool) (c : Int) : (showP K n s b c).2 = if rightB K n s b c = true then 0 else 2 := by
  unfold showP
  split
  · split <;> rfl
  · rfl
theorem readP_cases (s : List UInt8) : (rightB (readP s).1 (readP s).2.1 (readP s).2.2.1 (readP s).2.2.2.1 (readP s).2.2.2.2.1 = true ∧ (readP s).2.2.2.2.2 = 0 ∧ ((readP s).1 = 2 → (readP s).2.2.1 = s)) ∨ readP s = (0, 0, [], false, 0, 7) := by
  unfold readP
  by_cases c0 : s = []
  · rw [if_pos c0]; exact Or.inl ⟨rfl, rfl, fun h => by cases h⟩
  rw [if_neg c0]
  by_cases c1 : (numL s).2 = 0
  · rw [if_pos c1]
    have := numL_fit s c1
    refine Or.inl ⟨?_, rfl, fun h => by cases h⟩
    have hf : fitB (numL s).1 = true := decide_eq_true this
    simp [rightB, hf]
  rw [if_neg c1]
  by_cases c2 : (truP s).2 = true
  · rw [if_pos c2]; exact Or.inl ⟨rfl, rfl, fun h => by cases h⟩
  rw [if_neg c2]
  cases h : nameOf (bl s) with
  | some i =>
    refine Or.inl ⟨?_, rfl, fun h => by cases h⟩
    unfold nameOf at h
    have hi : 1 ≤ i ∧ i ≤ 7 := by
      repeat' split at h
      all_goals first | (obtain rfl := Option.some.inj h; omega) | cases h
    simp [rightB, hi.1, hi.2]
  | none =>
    by_cases c3 : s.length ≤ 255
    · rw [if_pos c3]
      refine Or.inl ⟨?_, rfl, fun _ => rfl⟩
      simp [rightB, c3]
    · rw [if_neg c3]; exact Or.inr rfl
end Go.Proofs.YtgjdlimbkjdhjaaGreatDoor.Pr
end
section
namespace Go.Proofs.YtgjdlimbkjdhjaaGreatDoor.Pr
set_option linter.unusedVariables false
set_option linter.unusedSimpArgs false
open Go.RowKit Go.Proofs.YtgjdlimbkjdhjaaGreatDoorW.PrintWords Go.Proofs.YtgjdlimbkjdhjaaGreatDoorW.PrintMore
theorem nameL_len (c : Int) : (nameL c).length ≤ 7 := by
  unfold nameL nameZ
  repeat' split
  all_goals decide
theorem show_len (K n : Int) (s : List UInt8) (b : Bool) (c : Int) : (showP K n s b c).1.length ≤ 255 := by
  unfold showP
  cases h : rightB K n s b c with
  | false => exact Nat.zero_le _
  | true =>
    rw [if_pos rfl]
    rcases rightB_cases h with ⟨rfl, rfl, rfl, rfl, rfl⟩ | ⟨rfl, hf, rfl, rfl, rfl⟩ | ⟨rfl, hl, rfl, rfl, rfl⟩ | ⟨rfl, rfl, rfl, rfl⟩ | ⟨rfl, h1, h7, rfl, rfl, rfl⟩
    · exact Nat.zero_le _
    · unfold wordsP
      rw [if_neg (by decide), if_pos h, if_neg (by decide), if_pos rfl]
      have := printL_len n hf
      show (printL n).length ≤ 255
      omega
    · unfold wordsP
      rw [if_neg n24, if_pos h, if_neg n24, if_neg n21]
      exact hl
    · cases b <;> decide
    · rw [if_pos rfl]
      have := nameL_len c
      show (nameL c).length ≤ 255
      omega
theorem ValueBack_pure (a0_0 : Int) (a0_1 : Int) (a0_2 : ByteArray) (a0_3 : Bool) (a0_4 : Int) (a1 : ByteArray) (y0_0 : (Lit.int .i64 a0_0).wf = true) (y0_1 : (Lit.int .i64 a0_1).wf = true) (z0 : a0_2.size ≤ 140737488351232) (y0_4 : (Lit.int .i64 a0_4).wf = true) (z1 : a1.size ≤ 140737488351232) : foolscaplaw04_ValueBack.f 2500 a0_0 a0_1 a0_2 a0_3 a0_4 a1 = some true := by
  rw [← bl_of a0_2, ← bl_of a1]
  have hz : a1.data.toList.length ≤ 140737488351232 := by rw [Array.length_toList]; exact z1
  generalize a0_2.data.toList = s
  generalize a1.data.toList = t at hz
  have hend : ∀ k, 2490 ≤ k → k ≤ 2500 → foolscaplaw04_lives.f (k - 1) = some true → foolscaplaw04_ValueBack.j1 k (bl t) = some true := by
    intro k hk hk2 hlv
    obtain ⟨k, rfl⟩ : ∃ m, k = m + 1 := ⟨k - 1, by omega⟩
    simp only [foolscaplaw04_ValueBack.j1]
    rw [value_Read_eq k (by omega) t hz]
    simp only [Option.bind_some, toB]
    rw [show k + 1 - 1 = k from rfl] at hlv
    rcases readP_cases t with ⟨hr, h0, h2⟩ | h7
    · rw [if_pos h0, value_Show_eq]
      simp only [Option.bind_some]
      have hx : readP (showP (readP t).1 (readP t).2.1 (readP t).2.2.1 (readP t).2.2.2.1 (readP t).2.2.2.2.1).1 = readP t := by
        by_cases hK : (readP t).1 = 2
        · have hs : (showP (readP t).1 (readP t).2.1 (readP t).2.2.1 (readP t).2.2.2.1 (readP t).2.2.2.2.1).1 = t := by
            unfold showP wordsP
            rw [if_pos hr, if_pos hr, hK]
            exact h2 hK
          rw [hs]
        · rw [read_show _ _ _ _ _ hr hK]
          exact Prod.ext rfl (Prod.ext rfl (Prod.ext rfl (Prod.ext rfl (Prod.ext rfl h0.symm))))
      have hlen : (showP (readP t).1 (readP t).2.1 (readP t).2.2.1 (readP t).2.2.2.1 (readP t).2.2.2.2.1).1.length ≤ 140737488351232 := by
        have := show_len (readP t).1 (readP t).2.1 (readP t).2.2.1 (readP t).2.2.2.1 (readP t).2.2.2.2.1
        omega
      rw [value_Read_eq k (by omega) _ hlen, hx]
      simp only [Option.bind_some, toB]
      rw [value_Check_eq]
      simp only [Option.bind_some]
      rw [if_pos hr, if_pos rfl, show_ok, if_pos hr, if_pos rfl, if_pos h0, if_pos (by simp), hlv, Option.bind_some]
    · rw [h7, if_neg (by decide)]
      simp only []
      rw [if_pos (by rw [bl_toList]; rfl), hlv, Option.bind_some]
  have hj : ∀ b : Bool, (b = true → rightB a0_0 a0_1 s a0_3 a0_4 = true ∧ ¬ a0_0 = 2) → foolscaplaw04_ValueBack.j0 2500 (bl t) (bl (showP a0_0 a0_1 s a0_3 a0_4).1) b a0_0 a0_1 (bl s) a0_3 a0_4 = some true := by
    intro b hb
    rw [show (2500 : Nat) = 2499 + 1 from rfl]
    simp only [foolscaplaw04_ValueBack.j0]
    cases b with
    | false =>
      rw [if_neg (by first | exact Bool.false_ne_true | exact not_false)]
      exact hend 2499 (by decide) (by decide) value_lives2
    | true =>
      rw [if_pos (by first | trivial | rfl)]
      obtain ⟨hr, hK⟩ := hb rfl
      have := show_len a0_0 a0_1 s a0_3 a0_4
      rw [value_Read_eq 2499 (by decide) _ (by omega), read_show _ _ _ _ _ hr hK]
      simp only [Option.bind_some, toB]
      rw [if_neg (by simp), if_pos (by first | trivial | rfl)]
      exact hend 2499 (by decide) (by decide) value_lives2
  unfold foolscaplaw04_ValueBack.f
  rw [value_Show_eq]
  simp only [Option.bind_some]
  rw [show_ok]
  cases h : rightB a0_0 a0_1 s a0_3 a0_4 with
  | false =>
    rw [if_neg (by decide)]
    exact hj false (fun h => by cases h)
  | true =>
    rw [if_pos rfl]
    refine hj _ fun h2 => ⟨h, ?_⟩
    intro h3
    rw [h3] at h2
    exact absurd h2 (by decide)
theorem ValueBack_walk (a0_0 : Int) (a0_1 : Int) (a0_2 : ByteArray) (a0_3 : Bool) (a0_4 : Int) (a1 : ByteArray) (w : World) (y0_0 : (Lit.int .i64 a0_0).wf = true) (y0_1 : (Lit.int .i64 a0_1).wf = true) (z0 : a0_2.size ≤ 140737488351232) (y0_4 : (Lit.int .i64 a0_4).wf = true) (z1 : a1.size ≤ 140737488351232) (hL : Aside0 (LaidW w)) :
    Calls Tryz.prog 4 #[.agg #[.int .i64 a0_0, .int .i64 a0_1, .string a0_2, .bool a0_3, .int .i64 a0_4], .string a1] w fun e w' => e = .returned (.bool true) ∧ Below w.heap.size w w' :=
  foolscaplaw04_ValueBack.calls 2500 a0_0 a0_1 a0_2 a0_3 a0_4 a1 true w (ValueBack_pure a0_0 a0_1 a0_2 a0_3 a0_4 a1 y0_0 y0_1 z0 y0_4 z1) hL
end Go.Proofs.YtgjdlimbkjdhjaaGreatDoor.Pr
end
