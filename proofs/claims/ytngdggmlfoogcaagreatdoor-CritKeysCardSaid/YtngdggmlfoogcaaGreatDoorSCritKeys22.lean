/-
  What the law CritKeys leans on, out of the texts that were printed and written for this seat: only what its proof mentions (gathered by a program of the author's).
-/
import Derived.Test.YtngdggmlfoogcaaGreatDoorSCritKeys18
import Derived.Test.YtngdggmlfoogcaaGreatDoorSCritKeys4
import Derived.Test.YtngdggmlfoogcaaGreatDoorSCritKeys11
import Derived.Test.YtngdggmlfoogcaaGreatDoorSCritKeys15
import Derived.Laws.BytesArg
import Derived.Lib.IndexLaws
import Derived.Lib.ItoaNum
import Derived.Lib.ParseIntB
import Derived.Lib.Repeat
import Derived.Lib.SlTrimSet
import Derived.Lib.Strings
import Derived.WalkKit
section
namespace Go.Proofs.YtngdggmlfoogcaaGreatDoor.Pr
set_option linter.unusedVariables false
def bl (l : List UInt8) : ByteArray := ⟨l.toArray⟩
theorem bl_def (l : List UInt8) : (⟨l.toArray⟩ : ByteArray) = bl l := rfl
theorem bl_append (a b : List UInt8) : bl a ++ bl b = bl (a ++ b) := by apply ByteArray.ext; simp [bl]
theorem bl_size (a : List UInt8) : (bl a).size = a.length := by simp [bl, ByteArray.size]
theorem bl_extract (a : List UInt8) (i j : Nat) : (bl a).extract i j = bl ((a.take j).drop i) := by
  apply ByteArray.ext; simp [bl, ByteArray.data_extract, List.drop_take]
theorem bl_toList (a : List UInt8) : (bl a).toList = a := by rw [Lib.toList_data]; simp [bl]
theorem bl_data (a : List UInt8) : (bl a).data.toList = a := by simp [bl]
theorem bl_of (s : ByteArray) : bl s.data.toList = s := by apply ByteArray.ext; simp [bl]
theorem decDigits_small (u : Nat) (h : u < 10) : Lib.decDigits u = [UInt8.ofNat (48 + u)] := by rw [Lib.decDigits, dif_pos h]
theorem decDigits_big (u : Nat) (h : ¬ u < 10) : Lib.decDigits u = Lib.decDigits (u / 10) ++ [UInt8.ofNat (48 + u % 10)] := by rw [Lib.decDigits, dif_neg h]
theorem decDigits_length (f : Nat) : ∀ u, u < 10 ^ (f + 1) → 1 ≤ (Lib.decDigits u).length ∧ (Lib.decDigits u).length ≤ f + 1 := by
  induction f with
  | zero => intro u h; rw [decDigits_small u (by omega)]; simp
  | succ f ih =>
    intro u h
    by_cases c : u < 10
    · rw [decDigits_small u c]; simp
    · rw [decDigits_big u c]
      have := ih (u / 10) (by rw [Nat.pow_succ] at h; omega)
      simp
      omega
theorem repeat_one (b : UInt8) (n : Nat) : Lib.repeatL [b] n = List.replicate n b := by
  induction n with
  | zero => rfl
  | succ n ih => rw [Lib.repeatL, ih]; rfl
end Go.Proofs.YtngdggmlfoogcaaGreatDoor.Pr
namespace Go.Proofs.YtngdggmlfoogcaaGreatDoor.Pr
set_option linter.unusedVariables false
open Go.RowKit Go.Proofs.YtngdggmlfoogcaaGreatDoorW.PrintWords Go.Proofs.YtngdggmlfoogcaaGreatDoorW.PrintMore
end Go.Proofs.YtngdggmlfoogcaaGreatDoor.Pr
namespace Go.Proofs.YtngdggmlfoogcaaGreatDoor.Pr
set_option linter.unusedVariables false
set_option linter.unusedSimpArgs false
def dg (b : UInt8) : Bool := decide (48 ≤ b.toNat) && decide (b.toNat ≤ 57)
theorem dg_iff (b : UInt8) : dg b = true ↔ 48 ≤ b.toNat ∧ b.toNat ≤ 57 := by simp [dg]
def dvl : List UInt8 → Nat → Nat
  | [], acc => acc
  | c :: r, acc => dvl r (10 * acc + (c.toNat - 48))
def dval (acc : Nat) (l : List UInt8) : Nat := dvl l acc
theorem dvl_cons (a : Nat) (c : UInt8) (r : List UInt8) : dvl (c :: r) a = dvl r (10 * a + (c.toNat - 48)) := rfl
theorem dval_cons (a : Nat) (c : UInt8) (r : List UInt8) : dval a (c :: r) = dval (10 * a + (c.toNat - 48)) r := by unfold dval; exact dvl_cons a c r
theorem dval_nil (a : Nat) : dval a [] = a := rfl
theorem dval_append (l m : List UInt8) : ∀ a, dval a (l ++ m) = dval (dval a l) m := by
  induction l with
  | nil => intro a; rfl
  | cons c r ih => intro a; rw [List.cons_append, dval_cons, dval_cons]; exact ih _
theorem dval_snoc (l : List UInt8) (c : UInt8) (a : Nat) : dval a (l ++ [c]) = 10 * dval a l + (c.toNat - 48) := by rw [dval_append]; rfl
def numFin (minus : Bool) (W F : Nat) : Int × Int := if 1000000000000000000 < W * 1000000 + F then (0, 3) else (if minus = true then -((W * 1000000 + F : Nat) : Int) else ((W * 1000000 + F : Nat) : Int), 0)
def frac (p : List UInt8) : Nat := dval 0 (p ++ List.replicate (6 - p.length) 48)
def numR (minus : Bool) (w r : List UInt8) : Int × Int :=
  if w = [] then (0, 5) else match r with
  | [] => numFin minus (dval 0 w) 0
  | c :: p => if c = 46 ∧ p ≠ [] ∧ p.length ≤ 6 ∧ p.all dg = true then numFin minus (dval 0 w) (frac p) else (0, 5)
def numT (minus : Bool) (t : List UInt8) : Int × Int := numR minus (t.takeWhile dg) (t.dropWhile dg)
def numL (l : List UInt8) : Int × Int := if 40 < l.length then (0, 5) else if l.head? = some 45 then numT true l.tail else numT false l
theorem take_of_all {w r : List UInt8} (h : w.all dg = true) (h2 : ∀ c, r.head? = some c → dg c = false) : (w ++ r).takeWhile dg = w ∧ (w ++ r).dropWhile dg = r := by
  induction w with
  | nil =>
    cases r with
    | nil => exact ⟨rfl, rfl⟩
    | cons c r => simp [h2 c rfl]
  | cons b w ih =>
    simp only [List.all_cons, Bool.and_eq_true] at h
    simp [h.1, ih h.2]
theorem numT_of {w r : List UInt8} (m : Bool) (h : w.all dg = true) (h2 : ∀ c, r.head? = some c → dg c = false) : numT m (w ++ r) = numR m w r := by
  unfold numT
  rw [(take_of_all h h2).1, (take_of_all h h2).2]
end Go.Proofs.YtngdggmlfoogcaaGreatDoor.Pr
namespace Go.Proofs.YtngdggmlfoogcaaGreatDoor.Pr
set_option linter.unusedVariables false
set_option linter.unusedSimpArgs false
def padN : Nat → Nat → List UInt8
  | 0, _ => []
  | k + 1, u => padN k (u / 10) ++ [UInt8.ofNat (48 + u % 10)]
theorem padN_succ (k u : Nat) : padN (k + 1) u = padN k (u / 10) ++ [UInt8.ofNat (48 + u % 10)] := rfl
theorem padN_length (k : Nat) : ∀ u, (padN k u).length = k := by
  induction k with
  | zero => intro u; rfl
  | succ k ih => intro u; rw [padN_succ, List.length_append, ih]; rfl
theorem dg_of (d : Nat) (h : d < 10) : dg (UInt8.ofNat (48 + d)) = true ∧ (UInt8.ofNat (48 + d)).toNat - 48 = d := by
  have : (UInt8.ofNat (48 + d)).toNat = 48 + d := by rw [UInt8.toNat_ofNat']; omega
  rw [dg_iff, this]
  omega
theorem all_one (c : UInt8) (h : dg c = true) : ([c] : List UInt8).all dg = true := by rw [List.all_cons, h]; rfl
theorem padN_all (k : Nat) : ∀ u, (padN k u).all dg = true := by
  induction k with
  | zero => intro u; rfl
  | succ k ih => intro u; rw [padN_succ, List.all_append, ih, all_one _ (dg_of (u % 10) (Nat.mod_lt _ (by decide))).1]; rfl
theorem padN_val (k : Nat) : ∀ u, dval 0 (padN k u) = u % 10 ^ k := by
  induction k with
  | zero => intro u; rw [Nat.pow_zero, Nat.mod_one]; rfl
  | succ k ih =>
    intro u
    rw [padN_succ, dval_snoc, ih, (dg_of (u % 10) (Nat.mod_lt _ (by decide))).2, Nat.pow_succ, Nat.mul_comm (10 ^ k) 10, Nat.mod_mul]
    omega
theorem padN_front (k : Nat) : ∀ u, padN (k + 1) u = UInt8.ofNat (48 + u / 10 ^ k % 10) :: padN k u := by
  induction k with
  | zero => intro u; rw [Nat.pow_zero, Nat.div_one]; rfl
  | succ k ih =>
    intro u
    rw [padN_succ, ih, padN_succ k u, Nat.div_div_eq_div_mul, Nat.pow_succ, Nat.mul_comm 10 (10 ^ k), List.cons_append]
theorem padN_zero (k : Nat) : padN k 0 = List.replicate k 48 := by
  induction k with
  | zero => rfl
  | succ k ih => rw [padN_succ, Nat.zero_div, ih, List.replicate_succ']; rfl
theorem decDigits_split (k : Nat) : ∀ u, 10 ^ k ≤ u → Lib.decDigits u = Lib.decDigits (u / 10 ^ k) ++ padN k u := by
  induction k with
  | zero => intro u h; rw [Nat.pow_zero, Nat.div_one]; simp [padN]
  | succ k ih =>
    intro u h
    have hp : 0 < 10 ^ k := Nat.pow_pos (by decide)
    rw [Nat.pow_succ] at h
    rw [decDigits_big u (by omega), ih (u / 10) (by omega), Nat.div_div_eq_div_mul, Nat.pow_succ, Nat.mul_comm 10 (10 ^ k), padN_succ, List.append_assoc]
theorem decDigits_pad (k : Nat) : ∀ u, u < 10 ^ (k + 1) → List.replicate (k + 1 - (Lib.decDigits u).length) 48 ++ Lib.decDigits u = padN (k + 1) u := by
  induction k with
  | zero => intro u h; rw [decDigits_small u (by omega)]; rw [padN_succ, Nat.mod_eq_of_lt (by omega)]; rfl
  | succ k ih =>
    intro u h
    by_cases c : u < 10
    · rw [decDigits_small u c, padN_succ, Nat.mod_eq_of_lt c, show u / 10 = 0 by omega, padN_zero]; rfl
    · rw [Nat.pow_succ] at h
      rw [decDigits_big u c, padN_succ, ← ih (u / 10) (by omega), List.length_append, List.append_assoc]
      congr 2
      simp
theorem decDigits_all (f : Nat) : ∀ u, u < 10 ^ (f + 1) → (Lib.decDigits u).all dg = true ∧ dval 0 (Lib.decDigits u) = u := by
  induction f with
  | zero =>
    intro u h
    rw [decDigits_small u (by omega)]
    have := dg_of u (by omega)
    refine ⟨all_one _ this.1, ?_⟩
    rw [dval_cons, dval_nil, this.2]; omega
  | succ f ih =>
    intro u h
    by_cases c : u < 10
    · have := dg_of u c
      rw [decDigits_small u c]
      refine ⟨all_one _ this.1, ?_⟩
      rw [dval_cons, dval_nil, this.2]; omega
    · rw [Nat.pow_succ] at h
      have h1 := ih (u / 10) (by omega)
      have h2 := dg_of (u % 10) (Nat.mod_lt _ (by decide))
      rw [decDigits_big u c]
      refine ⟨by rw [List.all_append, h1.1, all_one _ h2.1]; rfl, ?_⟩
      rw [dval_snoc, h1.2, h2.2]; omega
end Go.Proofs.YtngdggmlfoogcaaGreatDoor.Pr
namespace Go.Proofs.YtngdggmlfoogcaaGreatDoor.Pr
set_option linter.unusedVariables false
set_option linter.unusedSimpArgs false
open Go.RowKit Go.Proofs.YtngdggmlfoogcaaGreatDoorW.PrintWords Go.Proofs.YtngdggmlfoogcaaGreatDoorW.PrintMore
theorem wN {a : Int} (h0 : -9223372036854775808 ≤ a) (h1 : a ≤ 9223372036854775807) : wrap64 a = a := by unfold wrap64; omega
theorem frac_nil : frac [] = 0 := by decide
end Go.Proofs.YtngdggmlfoogcaaGreatDoor.Pr
namespace Go.Proofs.YtngdggmlfoogcaaGreatDoor.Pr
set_option linter.unusedVariables false
set_option linter.unusedSimpArgs false
open Go.RowKit Go.Proofs.YtngdggmlfoogcaaGreatDoorW.PrintWords Go.Proofs.YtngdggmlfoogcaaGreatDoorW.PrintMore
end Go.Proofs.YtngdggmlfoogcaaGreatDoor.Pr
namespace Go.Proofs.YtngdggmlfoogcaaGreatDoor.Pr
set_option linter.unusedVariables false
set_option linter.unusedSimpArgs false
open Go.RowKit Go.Proofs.YtngdggmlfoogcaaGreatDoorW.PrintWords Go.Proofs.YtngdggmlfoogcaaGreatDoorW.PrintMore
theorem decDigits_six (u : Nat) (h : u < 10 ^ 20) : List.replicate (7 - (Lib.decDigits u).length) 48 ++ Lib.decDigits u = Lib.decDigits (u / 1000000) ++ padN 6 u := by
  by_cases c : 1000000 ≤ u
  · have hs := decDigits_split 6 u c
    have hl := decDigits_length 19 (u / 10 ^ 6) (by omega)
    have : (Lib.decDigits u).length = (Lib.decDigits (u / 10 ^ 6)).length + 6 := by
      conv => lhs; rw [hs]
      rw [List.length_append, padN_length]
    rw [show 7 - (Lib.decDigits u).length = 0 by omega, hs]
    rfl
  · rw [decDigits_pad 6 u (by omega), padN_front, show u / 1000000 = 0 by omega, decDigits_small 0 (by decide)]
    rfl
def trimZ (l : List UInt8) : List UInt8 := Lib.trimRightS l [48]
theorem trimZ_rev (m : List UInt8) : trimZ m.reverse = (m.dropWhile ([48].contains ·)).reverse := by unfold trimZ Lib.trimRightS; rw [List.reverse_reverse]
theorem trimZ_pad (l : List UInt8) : (trimZ l).length ≤ l.length ∧ trimZ l ++ List.replicate (l.length - (trimZ l).length) 48 = l := by
  rw [show l = l.reverse.reverse by rw [List.reverse_reverse]]
  generalize l.reverse = m
  rw [trimZ_rev]
  induction m with
  | nil => exact ⟨Nat.le_refl _, rfl⟩
  | cons c r ih =>
    rw [List.dropWhile_cons]
    split
    · rename_i hc
      rw [Lib.contains_one] at hc
      have hc2 := eq_of_beq hc
      refine ⟨by have := ih.1; simp at this ⊢; omega, ?_⟩
      have h1 := ih.1
      rw [show (c :: r).reverse.length - (r.dropWhile ([48].contains ·)).reverse.length = (r.reverse.length - (r.dropWhile ([48].contains ·)).reverse.length) + 1 by simp at h1 ⊢; omega, List.replicate_succ', ← List.append_assoc, ih.2, List.reverse_cons, hc2]
    · exact ⟨Nat.le_refl _, by simp⟩
def fracL (u : Nat) : List UInt8 := if trimZ (padN 6 u) = [] then [] else 46 :: trimZ (padN 6 u)
def signL (n : Int) : List UInt8 := if n < 0 then [45] else []
def printL (n : Int) : List UInt8 := signL n ++ (Lib.decDigits (n.natAbs / 1000000) ++ fracL n.natAbs)
def fitB (n : Int) : Bool := decide (-1000000000000000000 ≤ n ∧ n ≤ 1000000000000000000)
theorem num_Fits_fit (n : Int) : num_Fits.f n = some (fitB n) := by
  unfold num_Fits.f fitB
  by_cases c : n ≥ -1000000000000000000
  · rw [if_pos c]; congr 1; rw [decide_eq_decide]; omega
  · rw [if_neg c]; congr 1; exact (decide_eq_false (by omega)).symm
theorem ref01_Fits_fit (n : Int) : foolscapref01_Fits.f n = some (fitB n) := num_Fits_fit n
theorem mx_abs (n : Int) (h : -1000000000000000000 ≤ n ∧ n ≤ 1000000000000000000) : mx n (wrap64 (-n)) = (n.natAbs : Int) := by
  rw [wN (by omega) (by omega)]
  unfold mx
  split <;> omega
theorem num_Print_fit (n : Int) (h : -1000000000000000000 ≤ n ∧ n ≤ 1000000000000000000) : num_Print.f n = some (bl (printL n), 0) := by
  have hu : n.natAbs ≤ 1000000000000000000 := by omega
  unfold num_Print.f
  rw [num_Fits_fit, Option.bind_some, show fitB n = true from decide_eq_true h, if_pos rfl, mx_abs n h]
  have hneg : (n < 0) ∨ ¬ (n < 0) := by omega
  have hsg : signL n = if n < 0 then [45] else [] := rfl
  unfold printL
  generalize n.natAbs = u at *
  have hi : strconv_Itoa.f (u : Int) = some (bl (Lib.decDigits u)) := by
    unfold strconv_Itoa.f
    rw [if_pos (by omega), bl_def]
    have hi : Lib.itoa (u : Int) = Lib.decDigits u := by unfold Lib.itoa; rw [if_neg (by omega), Int.toNat_natCast]
    rw [hi]
  have hl := decDigits_length 19 u (by omega)
  rw [hi, Option.bind_some, bl_size]
  have hm : mx 0 (wrap64 (7 - ((Lib.decDigits u).length : Int))) = ((7 - (Lib.decDigits u).length : Nat) : Int) := by
    rw [wN (by omega) (by omega)]
    unfold mx
    split <;> omega
  have hr : strings_Repeat.f (⟨#[48]⟩ : ByteArray) ((7 - (Lib.decDigits u).length : Nat) : Int) = some (bl (List.replicate (7 - (Lib.decDigits u).length) 48)) := by
    unfold strings_Repeat.f
    have h1 : (⟨#[48]⟩ : ByteArray).size = 1 := rfl
    rw [if_pos ⟨by omega, by omega, by rw [h1, Int.toNat_natCast]; omega⟩, Int.toNat_natCast]
    rw [show (⟨#[48]⟩ : ByteArray).data.toList = [48] from rfl, repeat_one, bl_def]
  rw [hm, hr, Option.bind_some, bl_size, if_pos (by simp; omega), bl_append, decDigits_six u (by omega), bl_size]
  have hl2 := decDigits_length 19 (u / 1000000) (by omega)
  have hlen : (Lib.decDigits (u / 1000000) ++ padN 6 u).length = (Lib.decDigits (u / 1000000)).length + 6 := by rw [List.length_append, padN_length]
  rw [hlen, show wrap64 ((((Lib.decDigits (u / 1000000)).length + 6 : Nat) : Int) - 6) = ((Lib.decDigits (u / 1000000)).length : Int) by rw [wN (by omega) (by omega)]; omega, if_pos (by omega), if_pos (by omega), Int.toNat_natCast]
  have e1 : (bl (Lib.decDigits (u / 1000000) ++ padN 6 u)).extract 0 (Lib.decDigits (u / 1000000)).length = bl (Lib.decDigits (u / 1000000)) := by
    rw [bl_extract, List.drop_zero, List.take_left]
  have e2 : (bl (Lib.decDigits (u / 1000000) ++ padN 6 u)).extract (Lib.decDigits (u / 1000000)).length ((Lib.decDigits (u / 1000000)).length + 6) = bl (padN 6 u) := by
    rw [bl_extract, ← hlen, List.take_length, List.drop_left]
  have ht : strings_TrimRight.f (bl (padN 6 u)) (⟨#[48]⟩ : ByteArray) = some (bl (trimZ (padN 6 u))) := by
    unfold strings_TrimRight.f
    rw [if_pos ⟨by decide, by decide, by rw [bl_size, padN_length]; decide⟩, bl_data]
    rfl
  have hz := (trimZ_pad (padN 6 u)).1
  rw [padN_length] at hz
  rw [e1, e2, ht, Option.bind_some, show (⟨#[45]⟩ : ByteArray) = bl [45] from rfl, show (⟨#[46]⟩ : ByteArray) = bl [46] from rfl]
  simp only [bl_toList, bl_append, bl_size]
  unfold fracL
  by_cases c : trimZ (padN 6 u) = []
  · rw [if_pos c, if_pos c, List.append_nil]
    rcases hneg with hn | hn
    · rw [if_pos hn, if_pos (by omega), hsg, if_pos hn]
    · rw [if_neg hn, hsg, if_neg hn, List.nil_append]
  · rw [if_neg c, if_neg c, if_pos (by omega), if_pos (by simp; omega)]
    rcases hneg with hn | hn
    · rw [if_pos hn, if_pos (by simp; omega), hsg, if_pos hn]; rfl
    · rw [if_neg hn, hsg, if_neg hn, List.nil_append]; rfl
theorem num_Print_all (n : Int) : num_Print.f n = some (if fitB n = true then (bl (printL n), 0) else (bl [], 2)) := by
  by_cases c : fitB n = true
  · rw [if_pos c, num_Print_fit n (of_decide_eq_true c)]
  · rw [if_neg c]
    unfold num_Print.f
    rw [num_Fits_fit, Option.bind_some, if_neg c]
    rfl
theorem numL_printL (n : Int) (h : -1000000000000000000 ≤ n ∧ n ≤ 1000000000000000000) : numL (printL n) = (n, 0) := by
  have hu : n.natAbs ≤ 1000000000000000000 := by omega
  have hn : n = if n < 0 then -(n.natAbs : Int) else (n.natAbs : Int) := by split <;> omega
  have hsg : signL n = if n < 0 then [45] else [] := rfl
  unfold printL
  generalize n.natAbs = u at *
  have hl := decDigits_length 12 (u / 1000000) (by omega)
  obtain ⟨ha, hv⟩ := decDigits_all 12 (u / 1000000) (by omega)
  obtain ⟨hz1, hz2⟩ := trimZ_pad (padN 6 u)
  rw [padN_length] at hz1 hz2
  have hzall : (trimZ (padN 6 u)).all dg = true := by
    have := padN_all 6 u
    rw [← hz2, List.all_append, Bool.and_eq_true] at this
    exact this.1
  have hfl : (fracL u).length ≤ 7 := by unfold fracL; split <;> simp; omega
  have hT : ∀ m, numT m (Lib.decDigits (u / 1000000) ++ fracL u) = (if m = true then -(u : Int) else (u : Int), 0) := by
    intro m
    have hne : Lib.decDigits (u / 1000000) ≠ [] := by intro h; rw [h] at hl; simp at hl
    have hfin : ∀ F, F = u % 1000000 → numFin m (dval 0 (Lib.decDigits (u / 1000000))) F = (if m = true then -(u : Int) else (u : Int), 0) := by
      intro F hF
      unfold numFin
      rw [hv, hF, show u / 1000000 * 1000000 + u % 1000000 = u by omega, if_neg (by omega)]
    have hfr : frac (trimZ (padN 6 u)) = u % 1000000 := by
      unfold frac; rw [hz2, padN_val]
    rw [numT_of m ha (by unfold fracL; intro c hc; split at hc; exact absurd hc (by simp); simp only [List.head?_cons, Option.some.injEq] at hc; rw [← hc]; rfl)]
    unfold numR fracL
    rw [if_neg hne]
    by_cases c : trimZ (padN 6 u) = []
    · rw [if_pos c]
      rw [c, frac_nil] at hfr
      exact hfin 0 hfr
    · rw [if_neg c]
      simp only []
      rw [if_pos ⟨trivial, c, hz1, hzall⟩]
      exact hfin _ hfr
  unfold numL
  rw [if_neg (by have : (signL n).length ≤ 1 := (by rw [hsg]; split <;> simp)
                 simp only [List.length_append]; omega), hsg]
  by_cases c : n < 0
  · rw [if_pos c] at hn ⊢
    have hT1 := hT true
    generalize Lib.decDigits (u / 1000000) ++ fracL u = t at *
    have hh : (([45] : List UInt8) ++ t).head? = some (45 : UInt8) := rfl
    have ht : (([45] : List UInt8) ++ t).tail = t := rfl
    rw [if_pos hh, ht, hT1, if_pos rfl, ← hn]
  · rw [if_neg c] at hn ⊢
    rw [List.nil_append]
    have hh : (Lib.decDigits (u / 1000000) ++ fracL u).head? ≠ some 45 := by
      cases hd : Lib.decDigits (u / 1000000) with
      | nil => rw [hd] at hl; simp at hl
      | cons b r =>
        rw [hd] at ha
        simp only [List.all_cons, Bool.and_eq_true] at ha
        have := (dg_iff b).1 ha.1
        intro h
        simp only [List.cons_append, List.head?_cons, Option.some.injEq] at h
        rw [h] at this
        exact absurd this.1 (by decide)
    rw [if_neg hh, hT false, if_neg (by decide), ← hn]
end Go.Proofs.YtngdggmlfoogcaaGreatDoor.Pr
end
