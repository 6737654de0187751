/-
  What the two readers of numbers come to: the program's and the document's.
-/
import Derived.Test.YtdhieabmpkfdhaaDoorPr13
import Derived.Test.YtdhieabmpkfdhaaDoorPr14
import Derived.Test.YtdhieabmpkfdhaaDoorPr15
import Derived.Test.YtdhieabmpkfdhaaDoorPNumL
import Derived.WalkKit
namespace Go.Proofs.YtdhieabmpkfdhaaDoor.Pr
set_option linter.unusedVariables false
set_option linter.unusedSimpArgs false
open Go.RowKit Go.Proofs.YtdhieabmpkfdhaaDoorW.PrintWords Go.Proofs.YtdhieabmpkfdhaaDoorW.PrintMore
theorem wN {a : Int} (h0 : -9223372036854775808 ≤ a) (h1 : a ≤ 9223372036854775807) : wrap64 a = a := by unfold wrap64; omega
theorem bl_nil_list (l : List UInt8) : ((bl l).toList = ([] : List UInt8)) = (l = []) := by rw [bl_toList]
/-! ### the program's -/
theorem num_digits_eq (l : List UInt8) (hl : l.length ≤ 1000) : num_digits.f (bl l) = some (decide (l ≠ []) && l.all dg) := by
  unfold num_digits.f
  simp only [bl_toList]
  by_cases c : l = []
  · subst c; rfl
  · rw [if_neg c]
    have ht : strings_Trim.f (bl l) (⟨#[48, 49, 50, 51, 52, 53, 54, 55, 56, 57]⟩ : ByteArray) = some (bl (Lib.trimS l [48, 49, 50, 51, 52, 53, 54, 55, 56, 57])) := by
      unfold strings_Trim.f
      rw [if_pos ⟨by decide, by decide, by rw [bl_size]; omega⟩, bl_data]
      rfl
    rw [ht, Option.bind_some]
    simp only [bl_toList]
    congr 1
    have h := trimS_nil l [48, 49, 50, 51, 52, 53, 54, 55, 56, 57]
    have hf : (fun x => ([48, 49, 50, 51, 52, 53, 54, 55, 56, 57] : List UInt8).contains x) = dg := funext digits_contains
    rw [hf] at h
    rw [decide_eq_true c, Bool.true_and, Bool.eq_iff_iff, beq_iff_eq, h]
theorem cutPrefix_eq (l : List UInt8) : strings_CutPrefix.f (bl l) (⟨#[45]⟩ : ByteArray) = some (if l.head? = some 45 then (bl l.tail, true) else (bl l, false)) := by
  unfold strings_CutPrefix.f
  rw [bl_data, show (⟨#[45]⟩ : ByteArray).data.toList = [45] from rfl, bl_def]
  unfold Lib.trimPrefix Lib.hasPrefix
  cases l with
  | nil => rfl
  | cons c r =>
    by_cases h : c = 45
    · subst h; simp
    · have h' : ¬ (45 : UInt8) = c := fun e => h e.symm
      simp [h, h', List.isPrefixOf]
theorem cut_eq (c : UInt8) (t : List UInt8) (ht : t.length ≤ 1000) : (c ∉ t ∧ strings_Cut.f (bl t) (⟨#[c]⟩ : ByteArray) = some (bl t, bl [], false)) ∨
    (∃ w p, t = w ++ c :: p ∧ c ∉ w ∧ strings_Cut.f (bl t) (⟨#[c]⟩ : ByteArray) = some (bl w, bl p, true)) := by
  unfold strings_Cut.f
  simp only []
  rw [if_pos (by rw [bl_size]; omega), bl_data]
  by_cases c1 : Lib.indexByte t c = -1
  · left
    rw [if_pos c1]
    refine ⟨?_, rfl⟩
    intro hm
    obtain ⟨k, hk⟩ := List.mem_iff_getElem?.1 hm
    exact Lib.indexByte_none c1 k hk
  · right
    rw [if_neg c1]
    have hge := Lib.indexByte_ge t c
    obtain ⟨o, ho⟩ : ∃ o : Nat, Lib.indexByte t c = o := ⟨(Lib.indexByte t c).toNat, by omega⟩
    obtain ⟨h1, h2⟩ := Lib.indexByte_some ho
    obtain ⟨hlt, hget⟩ := List.getElem?_eq_some_iff.1 h1
    rw [ho, bl_size, if_pos ⟨by omega, by omega⟩, Int.toNat_natCast, bl_extract, bl_extract]
    refine ⟨t.take o, t.drop (o + 1), ?_, ?_, ?_⟩
    · rw [← hget, ← List.drop_eq_getElem_cons hlt, List.take_append_drop]
    · intro hm
      obtain ⟨k, hk⟩ := List.mem_iff_getElem?.1 hm
      rw [List.getElem?_take] at hk
      split at hk
      · rename_i hlt2; exact h2 k hlt2 hk
      · exact absurd hk (by simp)
    · rw [List.drop_zero, List.take_length]
/-- the program's reading behind the sign. -/
def numP (k : Nat) (m : Bool) (t : ByteArray) : Option (Int × Int) := (strings_Cut.f t (⟨#[46]⟩ : ByteArray)).bind fun bt210 => ((num_digits.f bt210.1).bind fun t213 => (if t213 = true then (if bt210.2.2 = true then ((num_digits.f bt210.2.1).bind fun t214 => (if t214 = true then (num_Parse.j0 k m bt210.1 bt210.2.1 (decide ((bt210.2.1.size : Int) > 6))) else (num_Parse.j0 k m bt210.1 bt210.2.1 true))) else (num_Parse.j0 k m bt210.1 bt210.2.1 false)) else (num_Parse.j0 k m bt210.1 bt210.2.1 true)))
theorem num_Parse_f (k : Nat) (a0 : ByteArray) : num_Parse.f k a0 = if (a0.size : Int) > 40 then (some (0, 5)) else ((strings_CutPrefix.f a0 (⟨#[45]⟩ : ByteArray)).bind fun b => numP k b.2 b.1) := rfl
theorem num_Parse_j0_true (k : Nat) (m : Bool) (w p : ByteArray) : num_Parse.j0 (k + 1) m w p true = some (0, 5) := by
  simp only [num_Parse.j0]; rw [if_pos trivial]
theorem dropWhile_all {p : UInt8 → Bool} (q : UInt8 → Bool) (l : List UInt8) (h : l.all q = true) : (l.dropWhile p).all q = true := by
  induction l with
  | nil => rfl
  | cons c r ih =>
    rw [List.dropWhile_cons]
    simp only [List.all_cons, Bool.and_eq_true] at h
    split
    · exact ih h.2
    · simp [h.1, h.2]
theorem dropWhile_length {p : UInt8 → Bool} (l : List UInt8) : (l.dropWhile p).length ≤ l.length := by
  induction l with
  | nil => exact Nat.le_refl _
  | cons c r ih => rw [List.dropWhile_cons]; split <;> simp <;> omega
theorem frac_eq (p : List UInt8) (hp : p.length ≤ 6) : (p ++ [48, 48, 48, 48, 48, 48]).take 6 = p ++ List.replicate (6 - p.length) 48 := by
  rw [List.take_append, List.take_of_length_le hp, show ([48, 48, 48, 48, 48, 48] : List UInt8) = List.replicate 6 48 from rfl, List.take_replicate, Nat.min_eq_left (by omega)]
theorem zeros_all (n : Nat) : (List.replicate n (48 : UInt8)).all dg = true := by
  induction n with
  | zero => rfl
  | succ n ih => rw [List.replicate_succ, List.all_cons, ih]; rfl
theorem frac_lt (p : List UInt8) (h : p.all dg = true) (hp : p.length ≤ 6) : frac p < 1000000 := by
  have := dval_lt (p ++ List.replicate (6 - p.length) 48) (by rw [List.all_append, h, zeros_all]; rfl)
  rw [List.length_append, List.length_replicate, show p.length + (6 - p.length) = 6 by omega] at this
  exact this
theorem num_Parse_j0_eq (k : Nat) (m : Bool) (w p : List UInt8) (hw : w.all dg = true) (hl : w.length ≤ 40) (hp : p.all dg = true) (hpl : p.length ≤ 6) :
    num_Parse.j0 (k + 1) m (bl w) (bl p) false = some (numFin m (dval 0 w) (frac p)) := by
  simp only [num_Parse.j0]
  rw [if_neg (show ¬ (false = true) by decide)]
  have ht : strings_TrimLeft.f (bl w) (⟨#[48]⟩ : ByteArray) = some (bl (w.dropWhile ([48].contains ·))) := by
    unfold strings_TrimLeft.f
    rw [if_pos ⟨by decide, by decide⟩, bl_data]
    rfl
  rw [ht, Option.bind_some]
  rw [← dval_lead w]
  have hv := dropWhile_all (p := ([48].contains ·)) dg w hw
  have hvl := dropWhile_length (p := ([48].contains ·)) w
  have hv0 : (w.dropWhile ([48].contains ·)).head? ≠ some 48 := by
    intro h
    cases hd : w.dropWhile ([48].contains ·) with
    | nil => rw [hd] at h; exact absurd h (by simp)
    | cons c r =>
      have := dropWhile_head hd
      rw [hd] at h
      simp only [List.head?_cons, Option.some.injEq] at h
      rw [h] at this
      exact absurd this (by decide)
  generalize w.dropWhile ([48].contains ·) = v at *
  have hf := frac_lt p hp hpl
  rw [bl_size]
  by_cases c : (v.length : Int) > 13
  · rw [if_pos c]
    have hb := dval_big v hv hv0 (by intro h; subst h; simp at c)
    have h10 : 10 ^ 13 ≤ 10 ^ (v.length - 1) := Nat.pow_le_pow_right (by decide) (by omega)
    unfold numFin
    rw [if_pos (by omega)]
  · have hb := dval_lt v hv
    have h10 : 10 ^ v.length ≤ 10 ^ 13 := Nat.pow_le_pow_right (by decide) (by omega)
    rw [if_neg c, if_pos (by omega), bl_size, if_pos (by omega), if_pos (by decide), show (⟨#[48, 48, 48, 48, 48, 48]⟩ : ByteArray) = bl [48, 48, 48, 48, 48, 48] from rfl, show (⟨#[48]⟩ : ByteArray) = bl [48] from rfl, bl_append, bl_append, bl_size, if_pos (by simp; omega), bl_extract, List.drop_zero, frac_eq p hpl, bl_size, bl_size, if_pos (by simp; omega), bl_append]
    have hd : dval 0 ([48] ++ v ++ (p ++ List.replicate (6 - p.length) 48)) = dval 0 v * 1000000 + frac p := by
      rw [dval_append, dval_add (p ++ List.replicate (6 - p.length) 48), dval_append, List.length_append, List.length_replicate, show p.length + (6 - p.length) = 6 by omega]
      rfl
    have hall : ([48] ++ v ++ (p ++ List.replicate (6 - p.length) 48)).all dg = true := by
      rw [List.all_append, List.all_append, List.all_append, hv, hp, zeros_all]; rfl
    have hpu : strconv_ParseUint.f (bl ([48] ++ v ++ (p ++ List.replicate (6 - p.length) 48))) 10 64 = some (((dval 0 v * 1000000 + frac p : Nat) : Int), none) := by
      unfold strconv_ParseUint.f
      rw [if_pos ⟨rfl, rfl, by rw [bl_size]; simp; omega⟩, bl_data, parseUintB_ok _ hall (by simp) (by rw [hd]; omega), hd]
    rw [hpu, Option.bind_some]
    generalize hx : dval 0 v * 1000000 + frac p = x
    have hx2 : x < 10000000000000000000 := by omega
    simp only []
    unfold numFin
    rw [hx]
    by_cases c2 : 1000000000000000000 < x
    · rw [if_pos (by omega), if_pos c2]
    · rw [if_neg (by omega), if_neg c2]
      cases m with
      | true => rw [if_pos rfl, if_pos rfl, wN (a := (x : Int)) (by omega) (by omega), wN (by omega) (by omega)]
      | false => rw [if_neg (by decide), if_neg (by decide), wN (by omega) (by omega)]
theorem frac_nil : frac [] = 0 := by decide
theorem numP_eq (k : Nat) (m : Bool) (t : List UInt8) (ht : t.length ≤ 40) : numP (k + 1) m (bl t) = some (numT m t) := by
  unfold numP
  rcases cut_eq 46 t (by omega) with ⟨h46, hc⟩ | ⟨w, p, rfl, h46, hc⟩
  · rw [hc, Option.bind_some]
    simp only []
    rw [num_digits_eq t (by omega), Option.bind_some]
    by_cases c1 : t.all dg = true
    · have hn : numT m t = numR m t [] := by
        have := numT_of (r := []) m c1 (by intro c h; exact absurd h (by simp))
        rwa [List.append_nil] at this
      rw [hn]
      by_cases c2 : t = []
      · subst c2
        rw [if_neg (by decide), num_Parse_j0_true]
        rfl
      · rw [if_pos (by rw [c1, decide_eq_true c2]; rfl), if_neg (show ¬ (false = true) by decide), num_Parse_j0_eq k m t [] c1 ht rfl (by decide), frac_nil]
        unfold numR
        rw [if_neg c2]
    · rw [if_neg (by intro h; rw [Bool.and_eq_true] at h; exact c1 h.2), num_Parse_j0_true]
      have := numT_bad (r := []) m c1 h46
      rw [List.append_nil] at this
      rw [this]
  · rw [hc, Option.bind_some]
    simp only [List.length_append, List.length_cons] at ht
    simp only []
    rw [num_digits_eq w (by omega), Option.bind_some]
    by_cases c1 : w.all dg = true
    · have hn := numT_of (r := 46 :: p) m c1 (by intro c h; simp only [List.head?_cons, Option.some.injEq] at h; rw [← h]; rfl)
      rw [hn]
      by_cases c2 : w = []
      · subst c2
        rw [if_neg (by decide), num_Parse_j0_true]
        rfl
      · rw [if_pos (by rw [c1, decide_eq_true c2]; rfl), if_pos trivial, num_digits_eq p (by omega), Option.bind_some]
        unfold numR
        rw [if_neg c2]
        simp only []
        by_cases c3 : p.all dg = true
        · by_cases c4 : p = []
          · rw [if_neg (by intro h; rw [Bool.and_eq_true] at h; exact absurd (of_decide_eq_true h.1) (by simp [c4])), num_Parse_j0_true, if_neg (by intro h; exact h.2.1 c4)]
          · rw [if_pos (by rw [c3, decide_eq_true c4]; rfl), bl_size]
            by_cases c5 : p.length ≤ 6
            · rw [decide_eq_false (by omega), num_Parse_j0_eq k m w p c1 (by omega) c3 c5, if_pos ⟨trivial, c4, c5, c3⟩]
            · rw [decide_eq_true (by omega), num_Parse_j0_true, if_neg (by intro h; exact c5 h.2.2.1)]
        · rw [if_neg (by intro h; rw [Bool.and_eq_true] at h; exact c3 h.2), num_Parse_j0_true, if_neg (by intro h; exact c3 h.2.2.2)]
    · rw [if_neg (by intro h; rw [Bool.and_eq_true] at h; exact c1 h.2), num_Parse_j0_true, numT_bad m c1 h46]
theorem num_Parse_eq (k : Nat) (hk : 1 ≤ k) (l : List UInt8) : num_Parse.f k (bl l) = some (numL l) := by
  obtain ⟨k, rfl⟩ : ∃ q, k = q + 1 := ⟨k - 1, by omega⟩
  rw [num_Parse_f, bl_size]
  unfold numL
  by_cases c : 40 < l.length
  · rw [if_pos c, if_pos (by omega)]
  · rw [if_neg c, if_neg (by omega), cutPrefix_eq, Option.bind_some]
    by_cases c2 : l.head? = some 45
    · rw [if_pos c2, if_pos c2]
      simp only []
      rw [numP_eq k true _ (by simp; omega)]
    · rw [if_neg c2, if_neg c2]
      simp only []
      rw [numP_eq k false _ (by omega)]
end Go.Proofs.YtdhieabmpkfdhaaDoor.Pr
