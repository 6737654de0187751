/-
  Decimal texts as lists of bytes: what number each stands for, and what text a number has. No program is in sight.
-/
import Derived.Test.YtdhieabmpkfdhaaDoorPText
import Derived.Lib.SlTrimSet
import Derived.Lib.ParseIntB
import Derived.Lib.IndexLaws
namespace Go.Proofs.YtdhieabmpkfdhaaDoor.Pr
set_option linter.unusedVariables false
set_option linter.unusedSimpArgs false
/-- is a byte a digit? -/
def dg (b : UInt8) : Bool := decide (48 ≤ b.toNat) && decide (b.toNat ≤ 57)
theorem dg_iff (b : UInt8) : dg b = true ↔ 48 ≤ b.toNat ∧ b.toNat ≤ 57 := by simp [dg]
/-- what digits stand for, behind what stood ahead of them. -/
def dvl : List UInt8 → Nat → Nat
  | [], acc => acc
  | c :: r, acc => dvl r (10 * acc + (c.toNat - 48))
def dval (acc : Nat) (l : List UInt8) : Nat := dvl l acc
theorem dvl_cons (a : Nat) (c : UInt8) (r : List UInt8) : dvl (c :: r) a = dvl r (10 * a + (c.toNat - 48)) := rfl
theorem dval_cons (a : Nat) (c : UInt8) (r : List UInt8) : dval a (c :: r) = dval (10 * a + (c.toNat - 48)) r := by unfold dval; exact dvl_cons a c r
theorem dval_nil (a : Nat) : dval a [] = a := rfl
theorem dval_append (l m : List UInt8) : ∀ a, dval a (l ++ m) = dval (dval a l) m := by
  induction l with
  | nil => intro a; rfl
  | cons c r ih => intro a; rw [List.cons_append, dval_cons, dval_cons]; exact ih _
theorem dval_ge (l : List UInt8) : ∀ a, a ≤ dval a l := by
  induction l with
  | nil => intro a; exact Nat.le_refl _
  | cons c r ih => intro a; have := ih (10 * a + (c.toNat - 48)); simp only [dval_cons]; omega
theorem dval_add (l : List UInt8) : ∀ a, dval a l = a * 10 ^ l.length + dval 0 l := by
  induction l with
  | nil => intro a; simp [dval_nil]
  | cons c r ih =>
    intro a
    simp only [dval_cons, List.length_cons]
    rw [ih (10 * a + (c.toNat - 48)), ih (10 * 0 + (c.toNat - 48)), Nat.pow_succ, Nat.add_mul, Nat.add_mul, show 10 * a * 10 ^ r.length = a * (10 ^ r.length * 10) by rw [Nat.mul_comm 10 a, Nat.mul_assoc, Nat.mul_comm 10 (10 ^ r.length)]]
    omega
theorem dval_lt (l : List UInt8) (h : l.all dg = true) : dval 0 l < 10 ^ l.length := by
  induction l with
  | nil => simp [dval_nil]
  | cons c r ih =>
    simp only [List.all_cons, Bool.and_eq_true] at h
    have h1 := ih h.2
    have h2 := (dg_iff c).1 h.1
    simp only [dval_cons, List.length_cons]
    rw [dval_add r, Nat.pow_succ]
    have h3 : (10 * 0 + (c.toNat - 48)) * 10 ^ r.length ≤ 9 * 10 ^ r.length := Nat.mul_le_mul_right _ (by omega)
    omega
theorem dval_snoc (l : List UInt8) (c : UInt8) (a : Nat) : dval a (l ++ [c]) = 10 * dval a l + (c.toNat - 48) := by rw [dval_append]; rfl
theorem dval_lead (l : List UInt8) : dval 0 (l.dropWhile ([48].contains ·)) = dval 0 l := by
  induction l with
  | nil => rfl
  | cons c r ih =>
    rw [List.dropWhile_cons]
    split
    · rename_i h
      rw [Lib.contains_one] at h
      rw [ih, eq_of_beq h]
      rfl
    · rfl
theorem dval_zeros (n : Nat) : ∀ a, dval a (List.replicate n 48) = a * 10 ^ n := by
  induction n with
  | zero => intro a; simp [dval_nil]
  | succ n ih =>
    intro a
    rw [List.replicate_succ]
    simp only [dval_cons]
    rw [ih, Nat.pow_succ, show (48 : UInt8).toNat - 48 = 0 from rfl, Nat.add_zero, Nat.mul_comm 10 a, Nat.mul_assoc, Nat.mul_comm 10]
theorem dval_big (l : List UInt8) (h : l.all dg = true) (h0 : l.head? ≠ some 48) (hl : l ≠ []) : 10 ^ (l.length - 1) ≤ dval 0 l := by
  cases l with
  | nil => exact absurd rfl hl
  | cons c r =>
    simp only [List.all_cons, Bool.and_eq_true] at h
    have h2 := (dg_iff c).1 h.1
    have h3 : c.toNat ≠ 48 := fun e => h0 (by simp only [List.head?_cons, Option.some.injEq]; exact UInt8.toNat_inj.1 e)
    simp only [dval_cons, List.length_cons, Nat.add_sub_cancel]
    rw [dval_add r]
    have h3 : 1 * 10 ^ r.length ≤ (10 * 0 + (c.toNat - 48)) * 10 ^ r.length := Nat.mul_le_mul_right _ (by omega)
    omega
/-! ### the library's trimming, searching, reading -/
theorem dropWhile_head {p : UInt8 → Bool} : ∀ {l : List UInt8} {c : UInt8} {r : List UInt8}, l.dropWhile p = c :: r → p c = false := by
  intro l
  induction l with
  | nil => intro c r h; simp at h
  | cons b l ih =>
    intro c r h
    rw [List.dropWhile_cons] at h
    split at h
    · exact ih h
    · rename_i hb
      injection h with h1 h2
      rw [← h1]; simpa using hb
theorem dropWhile_nil {p : UInt8 → Bool} : ∀ {l : List UInt8}, l.dropWhile p = [] ↔ l.all p = true := by
  intro l
  induction l with
  | nil => simp
  | cons b l ih =>
    rw [List.dropWhile_cons]
    split
    · rename_i hb; rw [ih]; simp [hb]
    · rename_i hb; simp [hb]
theorem trimS_nil (l cs : List UInt8) : Lib.trimS l cs = [] ↔ l.all (cs.contains ·) = true := by
  unfold Lib.trimS Lib.trimLeftS Lib.trimRightS
  rw [dropWhile_nil]
  constructor
  · intro h
    cases hd : l.reverse.dropWhile (cs.contains ·) with
    | nil => have := dropWhile_nil.1 hd; rwa [List.all_reverse] at this
    | cons c r =>
      rw [hd, List.all_reverse] at h
      simp only [List.all_cons, Bool.and_eq_true] at h
      have := dropWhile_head hd
      rw [this] at h
      exact absurd h.1 (by decide)
  · intro h
    have : l.reverse.dropWhile (cs.contains ·) = [] := dropWhile_nil.2 (by rwa [List.all_reverse])
    rw [this]; rfl
theorem digits_contains (b : UInt8) : ([48, 49, 50, 51, 52, 53, 54, 55, 56, 57] : List UInt8).contains b = dg b := by
  rw [Bool.eq_iff_iff, dg_iff]
  simp only [List.contains_cons, List.contains_nil, Bool.or_eq_true, beq_iff_eq, Bool.false_eq_true, or_false, ← UInt8.toNat_inj]
  simp only [UInt8.reduceToNat]
  omega
theorem parseUintM_ok (l : List UInt8) (h : l.all dg = true) : ∀ acc, dval acc l ≤ 2 ^ 64 - 1 → Lib.parseUintM (2 ^ 64 - 1) acc l = .ok (dval acc l) := by
  induction l with
  | nil => intro acc ha; rfl
  | cons c r ih =>
    intro acc ha
    simp only [List.all_cons, Bool.and_eq_true] at h
    have h2 := (dg_iff c).1 h.1
    simp only [dval_cons] at ha ⊢
    have h3 := dval_ge r (10 * acc + (c.toNat - 48))
    unfold Lib.parseUintM
    rw [if_pos h2, if_neg (by omega), if_neg (by omega), Nat.mul_comm acc 10]
    exact ih h.2 _ ha
theorem parseUintB_ok (l : List UInt8) (h : l.all dg = true) (h0 : l ≠ []) (hb : dval 0 l ≤ 2 ^ 64 - 1) : Lib.parseUintB 64 l = .ok (dval 0 l) := by
  unfold Lib.parseUintB
  rw [if_neg h0]
  exact parseUintM_ok l h 0 hb
/-! ### what number a text stands for -/
def numFin (minus : Bool) (W F : Nat) : Int × Int := if 1000000000000000000 < W * 1000000 + F then (0, 3) else (if minus = true then -((W * 1000000 + F : Nat) : Int) else ((W * 1000000 + F : Nat) : Int), 0)
/-- a part's digits, up to six. -/
def frac (p : List UInt8) : Nat := dval 0 (p ++ List.replicate (6 - p.length) 48)
def numR (minus : Bool) (w r : List UInt8) : Int × Int :=
  if w = [] then (0, 5) else match r with
  | [] => numFin minus (dval 0 w) 0
  | c :: p => if c = 46 ∧ p ≠ [] ∧ p.length ≤ 6 ∧ p.all dg = true then numFin minus (dval 0 w) (frac p) else (0, 5)
def numT (minus : Bool) (t : List UInt8) : Int × Int := numR minus (t.takeWhile dg) (t.dropWhile dg)
def numL (l : List UInt8) : Int × Int := if 40 < l.length then (0, 5) else if l.head? = some 45 then numT true l.tail else numT false l
theorem takeWhile_all (l : List UInt8) : (l.takeWhile dg).all dg = true := by
  induction l with
  | nil => rfl
  | cons b l ih => rw [List.takeWhile_cons]; split <;> simp_all
theorem take_of_all {w r : List UInt8} (h : w.all dg = true) (h2 : ∀ c, r.head? = some c → dg c = false) : (w ++ r).takeWhile dg = w ∧ (w ++ r).dropWhile dg = r := by
  induction w with
  | nil =>
    cases r with
    | nil => exact ⟨rfl, rfl⟩
    | cons c r => simp [h2 c rfl]
  | cons b w ih =>
    simp only [List.all_cons, Bool.and_eq_true] at h
    simp [h.1, ih h.2]
theorem numT_of {w r : List UInt8} (m : Bool) (h : w.all dg = true) (h2 : ∀ c, r.head? = some c → dg c = false) : numT m (w ++ r) = numR m w r := by
  unfold numT
  rw [(take_of_all h h2).1, (take_of_all h h2).2]
/-- a text whose first piece holds another byte is no number. -/
theorem numT_bad (m : Bool) {w r : List UInt8} (h : ¬ w.all dg = true) (h2 : (46 : UInt8) ∉ w) : numT m (w ++ r) = (0, 5) := by
  unfold numT numR
  cases hd : w.dropWhile dg with
  | nil => exact absurd (dropWhile_nil.1 hd) h
  | cons c q =>
    have hc := dropWhile_head hd
    have hw : w = w.takeWhile dg ++ c :: q := by rw [← hd, List.takeWhile_append_dropWhile]
    have h46 : c ≠ 46 := by
      intro e
      apply h2
      rw [hw, e]
      simp
    have hb : ((w ++ r).takeWhile dg = w.takeWhile dg) ∧ (w ++ r).dropWhile dg = c :: (q ++ r) := by
      have := take_of_all (w := w.takeWhile dg) (r := c :: (q ++ r)) (takeWhile_all w) (by intro x hx; simp only [List.head?_cons, Option.some.injEq] at hx; rw [← hx]; exact hc)
      have he : w ++ r = w.takeWhile dg ++ c :: (q ++ r) := by
        conv => lhs; rw [hw]
        simp
      rw [he]; exact this
    rw [hb.1, hb.2]
    split
    · rfl
    · simp only []
      rw [if_neg (by intro h; exact h46 h.1)]
end Go.Proofs.YtdhieabmpkfdhaaDoor.Pr
