/-
  How days are read: what the program's reader and the document's come to, over lists of bytes.
-/
import Derived.Test.YtiloagepldeeeaaDoorPr10
import Derived.Test.YtiloagepldeeeaaDoorPr5
import Derived.Test.YtiloagepldeeeaaDoorPDatesText
import Derived.Test.YtiloagepldeeeaaDoorPNumL
namespace Go.Proofs.YtiloagepldeeeaaDoor.Pr
set_option linter.unusedVariables false
set_option linter.unusedSimpArgs false
open Go.RowKit Go.Proofs.YtiloagepldeeeaaDoorW.PrintWords Go.Proofs.YtiloagepldeeeaaDoorW.PrintMore
theorem bt_bl (w : List UInt8) (c : UInt8) (r : List UInt8) (i : Int) (h : i = w.length) : bt (bl (w ++ c :: r)) i = (c.toNat : Int) := by
  subst h
  unfold bt
  have hs : ((w.length : Nat) : Int).toNat < (bl (w ++ c :: r)).size := by rw [bl_size]; simp
  rw [dif_pos hs]
  congr 2
  have : ∀ (l : List UInt8) (j : Nat) (h : j < (bl l).size) (h2 : j < l.length), (bl l)[j]'h = l[j]'h2 := by
    intro l j h h2; rfl
  rw [this _ _ hs (by simp)]
  simp
/-! ### the library's reading of a whole number -/
theorem decFrom_ok (l : List UInt8) (h : l.all dg = true) : ∀ acc, Lib.decFrom acc l = some (dval acc l) := by
  induction l with
  | nil => intro acc; rfl
  | cons c r ih =>
    intro acc
    simp only [List.all_cons, Bool.and_eq_true] at h
    have h2 := (dg_iff c).1 h.1
    have hv : Lib.digitVal c = some (c.toNat - 48) := by
      unfold Lib.digitVal
      first | rw [if_pos h2] | (rw [if_pos (by simpa using h2)]) | (simp [h2])
    rw [Lib.decFrom, hv, dval_cons]
    first | (simp only [Option.bind_some]; rw [Nat.mul_comm acc 10]; exact ih h.2 _) | (simp only []; rw [Nat.mul_comm acc 10]; exact ih h.2 _) | exact ih h.2 _
theorem atoi_ok (l : List UInt8) (h : l.all dg = true) (h0 : l ≠ []) : Lib.atoi l = some ((dval 0 l : Nat) : Int) := by
  cases l with
  | nil => exact absurd rfl h0
  | cons c r =>
    have hc := h
    simp only [List.all_cons, Bool.and_eq_true] at hc
    have h2 := (dg_iff c).1 hc.1
    have e1 : (c == 45) = false := by rw [beq_eq_false_iff_ne]; intro e; rw [e] at h2; exact absurd h2.1 (by decide)
    have e2 : (c == 43) = false := by rw [beq_eq_false_iff_ne]; intro e; rw [e] at h2; exact absurd h2.1 (by decide)
    unfold Lib.atoi Lib.decNat
    simp only [e1, e2]
    first | (rw [decFrom_ok (c :: r) h 0]; rfl) | (simp [decFrom_ok (c :: r) h 0])
theorem dates_digits_eq (l : List UInt8) (h0 : l ≠ []) (hl : l.length ≤ 10) : dates_digits.f (bl l) = some (if l.all dg = true then (((dval 0 l : Nat) : Int), true) else (0, false)) := by
  unfold dates_digits.f
  have ht : strings_Trim.f (bl l) (⟨#[48, 49, 50, 51, 52, 53, 54, 55, 56, 57]⟩ : ByteArray) = some (bl (Lib.trimS l [48, 49, 50, 51, 52, 53, 54, 55, 56, 57])) := by
    unfold strings_Trim.f
    rw [if_pos ⟨by decide, by decide, by rw [bl_size]; omega⟩, bl_data]
    rfl
  rw [ht, Option.bind_some]
  simp only [bl_toList]
  have h := trimS_nil l [48, 49, 50, 51, 52, 53, 54, 55, 56, 57]
  have hf : (fun x => ([48, 49, 50, 51, 52, 53, 54, 55, 56, 57] : List UInt8).contains x) = dg := funext digits_contains
  rw [hf] at h
  by_cases c : l.all dg = true
  · rw [if_pos (h.2 c), if_pos c]
    have ha : strconv_Atoi.f (bl l) = some (((dval 0 l : Nat) : Int), none) := by
      unfold strconv_Atoi.f
      rw [if_pos (by rw [bl_size]; omega), bl_data, atoi_ok l c h0]
    rw [ha, Option.bind_some]
    rfl
  · rw [if_neg (fun e => c (h.1 e)), if_neg c]
/-- a day by its parts, where they are right. -/
def dateN (y m d : Nat) : Int × Int := if (y : Int) < 1900 ∨ (m : Int) < 1 ∨ 12 < (m : Int) ∨ (d : Int) < 1 ∨ longZ y m < d then (0, 3) else (numZ y m d, 0)
theorem dates_Parse_j1_true (k : Nat) (y m d : Int) : dates_Parse.j1 (k + 1) y m d true = some (0, 5) := by
  simp only [dates_Parse.j1]; rw [if_pos trivial]
theorem numZ_some {y m d : Int} (h0 : 1900 ≤ y) (h1 : y ≤ 9999) (h2 : 1 ≤ m) (h3 : m ≤ 12) (h4 : 1 ≤ d) (h5 : d ≤ 100) : 1 ≤ numZ y m d ∧ numZ y m d ≤ 3900000 := by
  have hl := longZ_range y m
  have hv : ValidD y m 1 := ⟨by omega, h2, h3, by omega, by omega⟩
  have hc := hv.cum
  have h6 := lpZ_range y
  have h7 := dayZ_range 9999 (by omega) (by omega)
  have h8 : dayZ 9999 = 3652060 := by decide
  have h9 := dayZ_1900
  have h10 := lpZ_range 1900
  have h11 : y = 1900 ∨ dayZ 1900 + 365 + lpZ 1900 ≤ dayZ y := by
    by_cases c : y = 1900
    · exact .inl c
    · exact .inr (dayZ_mono 1900 y (by omega) (by omega))
  have h12 : y = 9999 ∨ dayZ y + 365 + lpZ y ≤ dayZ 9999 := by
    by_cases c : y = 9999
    · exact .inl c
    · exact .inr (dayZ_mono y 9999 (by omega) (by omega))
  unfold numZ
  rcases h11 with rfl | h11 <;> rcases h12 with h12 | h12 <;> first | (subst h12; omega) | omega
theorem dates_Parse_j1_eq (k : Nat) (y m d : Nat) (hy : y ≤ 9999) (hm : m ≤ 99) (hd : d ≤ 99) : dates_Parse.j1 (k + 1) y m d false = some (dateN y m d) := by
  simp only [dates_Parse.j1]
  unfold dateN
  rw [if_neg (show ¬ (false = true) by decide)]
  by_cases c1 : (y : Int) < 1900
  · rw [if_pos c1, if_pos (.inl c1)]
  · rw [if_neg c1]
    by_cases c2 : (m : Int) < 1
    · rw [if_pos c2, if_pos (.inr (.inl c2))]
    · rw [if_neg c2]
      by_cases c3 : (m : Int) > 12
      · rw [if_pos c3, if_pos (.inr (.inr (.inl c3)))]
      · rw [if_neg c3]
        by_cases c4 : (d : Int) < 1
        · rw [if_pos c4, if_pos (.inr (.inr (.inr (.inl c4))))]
        · rw [if_neg c4]
          have hr := numZ_some (y := y) (m := m) (d := d) (by omega) (by omega) (by omega) (by omega) (by omega) (by omega)
          rw [dates_count_eq _ _ _ (by omega) (by omega) (by omega) (by omega) (by omega) (by omega), Option.bind_some, dates_parts_eq _ hr.1 (by omega), Option.bind_some]
          by_cases c5 : longZ y m < d
          · rw [if_pos (show (y : Int) < 1900 ∨ (m : Int) < 1 ∨ 12 < (m : Int) ∨ (d : Int) < 1 ∨ longZ y m < d from .inr (.inr (.inr (.inr c5))))]
            rw [if_pos]
            by_cases e : (y : Int) = (partsZ (numZ y m d)).1 ∧ (m : Int) = (partsZ (numZ y m d)).2.1 ∧ (d : Int) = (partsZ (numZ y m d)).2.2
            · have hv := (partsZ_valid _ hr.1).1
              rw [← e.1, ← e.2.1, ← e.2.2] at hv
              exact absurd hv.d1 (by omega)
            · simp only [Bool.or_eq_true, Bool.not_eq_true', beq_eq_false_iff_ne]
              by_cases e1 : (y : Int) = (partsZ (numZ y m d)).1
              · by_cases e2 : (m : Int) = (partsZ (numZ y m d)).2.1
                · exact .inr (.inr (fun e3 => e ⟨e1, e2, e3⟩))
                · exact .inr (.inl e2)
              · exact .inl e1
          · rw [if_neg (show ¬ ((y : Int) < 1900 ∨ (m : Int) < 1 ∨ 12 < (m : Int) ∨ (d : Int) < 1 ∨ longZ y m < d) by omega), partsZ_of y m d ⟨by omega, by omega, by omega, by omega, by omega⟩ hr.1]
            simp
/-- what ten bytes stand for. -/
def datesL (l : List UInt8) : Int × Int := match l with
  | [a0, a1, a2, a3, a4, a5, a6, a7, a8, a9] => if a4 = 45 ∧ a7 = 45 ∧ [a0, a1, a2, a3].all dg = true ∧ [a5, a6].all dg = true ∧ [a8, a9].all dg = true then dateN (dval 0 [a0, a1, a2, a3]) (dval 0 [a5, a6]) (dval 0 [a8, a9]) else (0, 5)
  | _ => (0, 5)
theorem ten (l : List UInt8) (h : l.length = 10) : ∃ a0 a1 a2 a3 a4 a5 a6 a7 a8 a9, l = [a0, a1, a2, a3, a4, a5, a6, a7, a8, a9] := by
  match l, h with
  | [a0, a1, a2, a3, a4, a5, a6, a7, a8, a9], _ => exact ⟨a0, a1, a2, a3, a4, a5, a6, a7, a8, a9, rfl⟩
theorem toNat45 (c : UInt8) : ((c.toNat : Int) = 45) ↔ c = 45 := by
  constructor
  · intro h; exact UInt8.toNat_inj.1 (by rw [show (45 : UInt8).toNat = 45 from rfl]; omega)
  · intro h; rw [h]; rfl
theorem datesL_not (l : List UInt8) (h : ¬ l.length = 10) : datesL l = (0, 5) := by
  unfold datesL
  split
  · exact absurd rfl h
  · rfl
theorem dates_Parse_eq (k : Nat) (hk : 2 ≤ k) (l : List UInt8) : dates_Parse.f k (bl l) = some (datesL l) := by
  obtain ⟨k, rfl⟩ : ∃ q, k = q + 2 := ⟨k - 2, by omega⟩
  unfold dates_Parse.f
  rw [bl_size]
  by_cases c : l.length = 10
  · obtain ⟨a0, a1, a2, a3, a4, a5, a6, a7, a8, a9, rfl⟩ := ten l c
    have b4 := bt_bl [a0, a1, a2, a3] a4 [a5, a6, a7, a8, a9] 4 rfl
    have b7 := bt_bl [a0, a1, a2, a3, a4, a5, a6] a7 [a8, a9] 7 rfl
    simp only [List.cons_append, List.nil_append] at b4 b7
    rw [if_pos (by simp), if_pos (by simp), b4, b7]
    have hL : datesL [a0, a1, a2, a3, a4, a5, a6, a7, a8, a9] = if a4 = 45 ∧ a7 = 45 ∧ [a0, a1, a2, a3].all dg = true ∧ [a5, a6].all dg = true ∧ [a8, a9].all dg = true then dateN (dval 0 [a0, a1, a2, a3]) (dval 0 [a5, a6]) (dval 0 [a8, a9]) else (0, 5) := rfl
    rw [hL]
    by_cases c4 : a4 = 45
    · rw [if_pos ((toNat45 a4).2 c4), if_pos (by simp)]
      by_cases c7 : a7 = 45
      · rw [show ((a7.toNat : Int) != 45) = false by rw [bne_eq_false_iff_eq]; exact (toNat45 a7).2 c7]
        simp only [dates_Parse.j0]
        have e1 : (bl [a0, a1, a2, a3, a4, a5, a6, a7, a8, a9]).extract 0 4 = bl [a0, a1, a2, a3] := by rw [bl_extract]; rfl
        have e2 : (bl [a0, a1, a2, a3, a4, a5, a6, a7, a8, a9]).extract 5 7 = bl [a5, a6] := by rw [bl_extract]; rfl
        have e3 : (bl [a0, a1, a2, a3, a4, a5, a6, a7, a8, a9]).extract 8 10 = bl [a8, a9] := by rw [bl_extract]; rfl
        have e0 : (bl [a0, a1, a2, a3, a4, a5, a6, a7, a8, a9]).size = 10 := rfl
        rw [if_neg (show ¬ (false = true) by decide), e0, if_pos (by decide), if_pos (by decide), e1, dates_digits_eq _ (by simp) (by simp), Option.bind_some, if_pos (by decide), if_pos (by decide), e2, dates_digits_eq _ (by simp) (by simp), Option.bind_some, if_pos (by decide), e3, dates_digits_eq _ (by simp) (by simp), Option.bind_some]
        by_cases d1 : [a0, a1, a2, a3].all dg = true
        · have v1 := dval_lt _ d1
          rw [if_pos d1]
          simp only []
          rw [if_pos trivial]
          by_cases d2 : [a5, a6].all dg = true
          · have v2 := dval_lt _ d2
            rw [if_pos d2]
            simp only []
            rw [if_pos trivial]
            by_cases d3 : [a8, a9].all dg = true
            · have v3 := dval_lt _ d3
              simp only [List.length_cons, List.length_nil] at v1 v2 v3
              rw [if_pos d3]
              simp only [Bool.not_true]
              rw [dates_Parse_j1_eq k _ _ _ (by omega) (by omega) (by omega), if_pos ⟨c4, c7, d1, d2, by first | exact d3 | trivial⟩]
            · rw [if_neg d3]
              simp only [Bool.not_false]
              rw [dates_Parse_j1_true, if_neg (by intro h; exact d3 h.2.2.2.2)]
          · rw [if_neg d2]
            simp only []
            rw [if_neg (by decide), dates_Parse_j1_true, if_neg (by intro h; exact d2 h.2.2.2.1)]
        · rw [if_neg d1]
          simp only []
          rw [if_neg (by decide), dates_Parse_j1_true, if_neg (by intro h; exact d1 h.2.2.1)]
      · rw [show ((a7.toNat : Int) != 45) = true by rw [bne_iff_ne]; exact fun h => c7 ((toNat45 a7).1 h), if_neg (fun h => c7 h.2.1)]
        simp only [dates_Parse.j0]; rw [if_pos trivial]
    · rw [if_neg (fun h => c4 ((toNat45 a4).1 h)), if_neg (fun h => c4 h.1)]
      simp only [dates_Parse.j0]; rw [if_pos trivial]
  · rw [if_neg (by omega), datesL_not l c]
    simp only [dates_Parse.j0]; rw [if_pos trivial]
/-! ### the document's reading, byte by byte -/
theorem ref11_dig (k : Nat) (xs : List Int) (n : Nat) (w : List UInt8) (c : UInt8) (r : List UInt8) (h4 : w.length ≠ 4) (h7 : w.length ≠ 7) (h10 : w.length < 10) (hn : n ≤ 99999) :
    foolscapref11_Parse.l0 (k + 2) (bl (w ++ c :: r)) xs (n : Int) (w.length : Int) = if dg c = true then foolscapref11_Parse.l0 k (bl (w ++ c :: r)) xs ((10 * n + (c.toNat - 48) : Nat) : Int) ((w.length + 1 : Nat) : Int) else some (0, 5) := by
  simp only [foolscapref11_Parse.l0, foolscapref11_Parse.j1]
  rw [if_pos (by omega), if_neg (by omega), show ((w.length : Int) == 7) = false by rw [beq_eq_false_iff_ne]; omega, if_neg (by decide), if_pos (by omega), bl_size, if_pos (by simp; omega), bt_bl w c r _ rfl]
  by_cases c1 : dg c = true
  · have hd := (dg_iff c).1 c1
    rw [if_neg (by omega), if_neg (by omega), if_pos c1, show ((c.toNat : Int) - 48) % 256 = ((c.toNat - 48 : Nat) : Int) by omega, w64 (a := 10 * (n : Int)) (by omega) (by omega), w64 (a := (w.length : Int) + 1) (by omega) (by omega), w64 (by omega) (by omega)]
    congr 1
  · rw [if_neg c1]
    have hd : ¬ (48 ≤ c.toNat ∧ c.toNat ≤ 57) := fun h => c1 ((dg_iff c).2 h)
    by_cases c2 : (c.toNat : Int) < 48
    · rw [if_pos c2]
    · rw [if_neg c2, if_pos (by omega)]
theorem ref11_dash (k : Nat) (xs : List Int) (n : Int) (w : List UInt8) (c : UInt8) (r : List UInt8) (h : w.length = 4 ∨ w.length = 7) (hx : xs.length ≤ 2) :
    foolscapref11_Parse.l0 (k + 2) (bl (w ++ c :: r)) xs n (w.length : Int) = if c = 45 then foolscapref11_Parse.l0 k (bl (w ++ c :: r)) (xs ++ [n]) 0 ((w.length + 1 : Nat) : Int) else some (0, 5) := by
  have hj : foolscapref11_Parse.j1 (k + 1) (bl (w ++ c :: r)) xs n (w.length : Int) true = if c = 45 then foolscapref11_Parse.l0 k (bl (w ++ c :: r)) (xs ++ [n]) 0 ((w.length + 1 : Nat) : Int) else some (0, 5) := by
    simp only [foolscapref11_Parse.j1]
    rw [if_pos trivial, if_pos (by omega), bl_size, if_pos (by simp; omega), bt_bl w c r _ rfl, w64 (a := (w.length : Int) + 1) (by omega) (by omega)]
    by_cases c1 : c = 45
    · rw [if_pos ((toNat45 c).2 c1), if_pos c1, if_pos (by omega)]; rfl
    · rw [if_neg (fun e => c1 ((toNat45 c).1 e)), if_neg c1]
  rw [show k + 2 = (k + 1) + 1 from rfl]
  simp only [foolscapref11_Parse.l0]
  rw [if_pos (by omega)]
  by_cases c4 : w.length = 4
  · rw [if_pos (by omega)]; exact hj
  · rw [if_neg (by omega), show ((w.length : Int) == 7) = true by rw [beq_iff_eq]; omega]; exact hj
theorem numZ_among {y m d : Int} (h : ValidD y m d) (h0 : 1900 ≤ y) (h1 : y ≤ 9999) : 1 ≤ numZ y m d ∧ numZ y m d ≤ 2958464 := by
  have hc := h.cum
  have h2 := dayZ_mono y 10000 (by omega) (by omega)
  have h3 : dayZ 10000 = 3652425 := by decide
  have h4 := dayZ_1900
  have h5 := lpZ_range 1900
  have h6 : y = 1900 ∨ dayZ 1900 + 365 + lpZ 1900 ≤ dayZ y := by
    by_cases c : y = 1900
    · exact .inl c
    · exact .inr (dayZ_mono 1900 y (by omega) (by omega))
  unfold numZ
  rcases h6 with rfl | h6 <;> omega
theorem serialZ_valid {y m d : Int} (h : ValidD y m d) (h0 : 1900 ≤ y) (h1 : y ≤ 9999) : serialZ y m d = (numZ y m d, 0) := by
  have hi := numZ_among h h0 h1
  have hm0 := h.m0; have hm1 := h.m1; have hd0 := h.d0; have hd1 := h.d1
  have hl := longZ_range y m
  unfold serialZ
  rw [if_neg (show ¬ (y < 1900 ∨ 9999 < y ∨ (m < -100000 ∨ 100000 < m) ∨ (d < -100000 ∨ 100000 < d)) by omega), if_neg (by omega), show (12 * y + m - 1) / 12 = y by omega, show (12 * y + m - 1) % 12 + 1 = m by omega, if_pos hi]
theorem ref11_end (k : Nat) (hk : 20020 ≤ k) (x : ByteArray) (y m d : Nat) (hy : y ≤ 9999) (hm : m ≤ 99) (hd : d ≤ 99) : foolscapref11_Parse.l0 k x [(y : Int), (m : Int)] (d : Int) 10 = some (dateN y m d) := by
  obtain ⟨k, rfl⟩ : ∃ q, k = q + 1 := ⟨k - 1, by omega⟩
  have r0 : rd [(y : Int), (m : Int)] 0 = y := rfl
  have r1 : rd [(y : Int), (m : Int)] 1 = m := rfl
  simp only [foolscapref11_Parse.l0]
  rw [r0, r1]
  unfold dateN
  rw [if_neg (by omega), if_pos (by simp)]
  by_cases c1 : (y : Int) < 1900
  · rw [if_pos c1, if_pos (.inl c1)]
  · rw [if_neg c1, if_pos (by simp)]
    by_cases c2 : (m : Int) < 1
    · rw [if_pos c2, if_pos (.inr (.inl c2))]
    · rw [if_neg c2]
      by_cases c3 : (m : Int) > 12
      · rw [if_pos c3, if_pos (.inr (.inr (.inl c3)))]
      · rw [if_neg c3]
        by_cases c4 : (d : Int) < 1
        · rw [if_pos c4, if_pos (.inr (.inr (.inr (.inl c4))))]
        · rw [if_neg c4, ref11_Long_eq, Option.bind_some]
          by_cases c5 : (d : Int) > longZ y m
          · rw [if_pos c5, if_pos (.inr (.inr (.inr (.inr c5))))]
          · rw [if_neg c5, ref11_Serial_eq k (by omega), Option.bind_some, serialZ_valid ⟨by omega, by omega, by omega, by omega, by omega⟩ (by omega) (by omega), if_neg (by omega)]
theorem ref11_Parse_eq (k : Nat) (hk : 20100 ≤ k) (l : List UInt8) : foolscapref11_Parse.f k (bl l) = some (datesL l) := by
  unfold foolscapref11_Parse.f
  rw [bl_size]
  by_cases c : l.length = 10
  · obtain ⟨a0, a1, a2, a3, a4, a5, a6, a7, a8, a9, rfl⟩ := ten l c
    obtain ⟨k, rfl⟩ : ∃ q, k = q + 20 := ⟨k - 20, by omega⟩
    have hL : datesL [a0, a1, a2, a3, a4, a5, a6, a7, a8, a9] = if a4 = 45 ∧ a7 = 45 ∧ [a0, a1, a2, a3].all dg = true ∧ [a5, a6].all dg = true ∧ [a8, a9].all dg = true then dateN (dval 0 [a0, a1, a2, a3]) (dval 0 [a5, a6]) (dval 0 [a8, a9]) else (0, 5) := rfl
    have s0 := ref11_dig (k + 18) [] 0 [] a0 [a1, a2, a3, a4, a5, a6, a7, a8, a9] (by simp) (by simp) (by simp) (by omega)
    have s1 := fun n => ref11_dig (k + 16) [] n [a0] a1 [a2, a3, a4, a5, a6, a7, a8, a9] (by simp) (by simp) (by simp)
    have s2 := fun n => ref11_dig (k + 14) [] n [a0, a1] a2 [a3, a4, a5, a6, a7, a8, a9] (by simp) (by simp) (by simp)
    have s3 := fun n => ref11_dig (k + 12) [] n [a0, a1, a2] a3 [a4, a5, a6, a7, a8, a9] (by simp) (by simp) (by simp)
    have s4 := fun n => ref11_dash (k + 10) [] n [a0, a1, a2, a3] a4 [a5, a6, a7, a8, a9] (by simp) (by simp)
    have s5 := fun y => ref11_dig (k + 8) [y] 0 [a0, a1, a2, a3, a4] a5 [a6, a7, a8, a9] (by simp) (by simp) (by simp) (by omega)
    have s6 := fun y n => ref11_dig (k + 6) [y] n [a0, a1, a2, a3, a4, a5] a6 [a7, a8, a9] (by simp) (by simp) (by simp)
    have s7 := fun y n => ref11_dash (k + 4) [y] n [a0, a1, a2, a3, a4, a5, a6] a7 [a8, a9] (by simp) (by simp)
    have s8 := fun y m => ref11_dig (k + 2) [y, m] 0 [a0, a1, a2, a3, a4, a5, a6, a7] a8 [a9] (by simp) (by simp) (by simp) (by omega)
    have s9 := fun y m n => ref11_dig k [y, m] n [a0, a1, a2, a3, a4, a5, a6, a7, a8] a9 [] (by simp) (by simp) (by simp)
    simp only [List.cons_append, List.nil_append, List.length_cons, List.length_nil, Nat.zero_add, Nat.reduceAdd, Int.cast_ofNat_Int, Int.natCast_zero] at s0 s1 s2 s3 s4 s5 s6 s7 s8 s9
    rw [if_pos (by simp), hL]
    have q : ∀ (c : UInt8), dg c = true → c.toNat - 48 ≤ 9 := fun c h => by have := (dg_iff c).1 h; omega
    simp only [List.all_cons, List.all_nil, Bool.and_true, Bool.and_eq_true, dval_cons, dval_nil]
    rw [s0]
    by_cases c0 : dg a0 = true
    · have q0 := q a0 c0
      rw [if_pos c0, s1 _ (by omega)]
      by_cases c1 : dg a1 = true
      · have q1 := q a1 c1
        rw [if_pos c1, s2 _ (by omega)]
        by_cases c2 : dg a2 = true
        · have q2 := q a2 c2
          rw [if_pos c2, s3 _ (by omega)]
          by_cases c3 : dg a3 = true
          · have q3 := q a3 c3
            rw [if_pos c3, s4]
            by_cases c4 : a4 = 45
            · rw [if_pos c4, s5]
              by_cases c5 : dg a5 = true
              · have q5 := q a5 c5
                rw [if_pos c5, s6 _ _ (by omega)]
                by_cases c6 : dg a6 = true
                · have q6 := q a6 c6
                  rw [if_pos c6, s7]
                  by_cases c7 : a7 = 45
                  · rw [if_pos c7, s8]
                    by_cases c8 : dg a8 = true
                    · have q8 := q a8 c8
                      rw [if_pos c8, s9 _ _ _ (by omega)]
                      by_cases c9 : dg a9 = true
                      · have q9 := q a9 c9
                        rw [if_pos c9, ref11_end k (by omega) _ _ _ _ (by omega) (by omega) (by omega), if_pos ⟨c4, c7, ⟨c0, c1, c2, c3⟩, ⟨c5, c6⟩, ⟨c8, c9⟩⟩]
                      · rw [if_neg c9, if_neg (fun h => c9 h.2.2.2.2.2)]
                    · rw [if_neg c8, if_neg (fun h => c8 h.2.2.2.2.1)]
                  · rw [if_neg c7, if_neg (fun h => c7 h.2.1)]
                · rw [if_neg c6, if_neg (fun h => c6 h.2.2.2.1.2)]
              · rw [if_neg c5, if_neg (fun h => c5 h.2.2.2.1.1)]
            · rw [if_neg c4, if_neg (fun h => c4 h.1)]
          · rw [if_neg c3, if_neg (fun h => c3 h.2.2.1.2.2.2)]
        · rw [if_neg c2, if_neg (fun h => c2 h.2.2.1.2.2.1)]
      · rw [if_neg c1, if_neg (fun h => c1 h.2.2.1.2.1)]
    · rw [if_neg c0, if_neg (fun h => c0 h.2.2.1.1)]
  · rw [if_neg (by omega), datesL_not l c]
end Go.Proofs.YtiloagepldeeeaaDoor.Pr
