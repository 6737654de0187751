/-
  How days are written: what the two writers come to.
-/
import Derived.Test.YtiloagepldeeeaaDoorPr14
import Derived.Test.YtiloagepldeeeaaDoorPr5
import Derived.Test.YtiloagepldeeeaaDoorPr6
import Derived.Test.YtiloagepldeeeaaDoorPr8
import Derived.Test.YtiloagepldeeeaaDoorPDates
import Derived.Test.YtiloagepldeeeaaDoorPDigits
namespace Go.Proofs.YtiloagepldeeeaaDoor.Pr
set_option linter.unusedVariables false
set_option linter.unusedSimpArgs false
open Go.RowKit Go.Proofs.YtiloagepldeeeaaDoorW.PrintWords Go.Proofs.YtiloagepldeeeaaDoorW.PrintMore
/-- a number's digits, at least so many. -/
def padL (n w : Nat) : List UInt8 := List.replicate (w - (Lib.decDigits n).length) 48 ++ Lib.decDigits n
theorem padL_length (n w : Nat) (hn : n < 10 ^ 10) (hw : w ≤ 10) : w ≤ (padL n w).length ∧ (padL n w).length ≤ 10 := by
  have := decDigits_length 9 n hn
  unfold padL
  simp
  omega
theorem dates_padded_eq (n w : Nat) (hn : n < 10 ^ 10) (hw : w ≤ 10) : dates_padded.f n w = some (bl (padL n w)) := by
  have hl := decDigits_length 9 n hn
  unfold dates_padded.f strconv_Itoa.f
  rw [if_pos (by omega), Option.bind_some, bl_def (Lib.itoa n)]
  have hi : Lib.itoa (n : Int) = Lib.decDigits n := by unfold Lib.itoa; rw [if_neg (by omega), Int.toNat_natCast]
  rw [hi, bl_size]
  have hm : mx 0 (wrap64 ((w : Int) - ((Lib.decDigits n).length : Int))) = ((w - (Lib.decDigits n).length : Nat) : Int) := by
    rw [w64 (by omega) (by omega)]
    unfold mx
    split <;> omega
  rw [hm]
  have hr : strings_Repeat.f (⟨#[48]⟩ : ByteArray) ((w - (Lib.decDigits n).length : Nat) : Int) = some (bl (List.replicate (w - (Lib.decDigits n).length) 48)) := by
    unfold strings_Repeat.f
    have h1 : (⟨#[48]⟩ : ByteArray).size = 1 := rfl
    rw [if_pos ⟨by omega, by omega, by rw [h1, Int.toNat_natCast]; omega⟩, Int.toNat_natCast]
    rw [show (⟨#[48]⟩ : ByteArray).data.toList = [48] from rfl, repeat_one, bl_def]
  rw [hr, Option.bind_some, bl_size, if_pos (by simp; omega), bl_append]
  rfl
theorem ref11_padded_l0 (w : Nat) (hw : w ≤ 10) (j : Nat) : ∀ (k : Nat) (l : List UInt8), j < k → j = w - l.length → l.length ≤ 20 → foolscapref11_padded.l0 k w (bl l) = some (bl (List.replicate (w - l.length) 48 ++ l)) := by
  induction j with
  | zero =>
    intro k l hk hj hl
    obtain ⟨k, rfl⟩ : ∃ q, k = q + 1 := ⟨k - 1, by omega⟩
    simp only [foolscapref11_padded.l0]
    rw [bl_size, if_neg (by omega), ← hj]
    rfl
  | succ j ih =>
    intro k l hk hj hl
    obtain ⟨k, rfl⟩ : ∃ q, k = q + 1 := ⟨k - 1, by omega⟩
    simp only [foolscapref11_padded.l0]
    rw [bl_size, if_pos (by omega), if_pos (by omega), show (⟨#[48]⟩ : ByteArray) = bl [48] from rfl, bl_append, ih k ([48] ++ l) (by omega) (by simp; omega) (by simp; omega)]
    congr 2
    rw [show w - l.length = (w - ([48] ++ l).length) + 1 by simp; omega, List.replicate_succ']
    simp
theorem ref11_padded_eq (k : Nat) (hk : 30 ≤ k) (n w : Nat) (hn : n < 10 ^ 10) (hw : w ≤ 10) : foolscapref11_padded.f k n w = some (bl (padL n w)) := by
  have hl := decDigits_length 9 n hn
  unfold foolscapref11_padded.f
  rw [ref01_Digits_eq 9 k n (by omega) hn (by omega), Option.bind_some, ref11_padded_l0 w hw (w - (Lib.decDigits n).length) k _ (by omega) rfl (by omega)]
  rfl
/-- a day's text. -/
def dayL (y m d : Int) : List UInt8 := padL y.toNat 4 ++ [45] ++ padL m.toNat 2 ++ [45] ++ padL d.toNat 2
theorem day_range (s : Int) (h0 : 1 ≤ s) (h1 : s ≤ 2958464) : 1900 ≤ (partsZ s).1 ∧ (partsZ s).1 ≤ 9999 ∧ 1 ≤ (partsZ s).2.1 ∧ (partsZ s).2.1 ≤ 12 ∧ 1 ≤ (partsZ s).2.2 ∧ (partsZ s).2.2 ≤ 31 := by
  obtain ⟨hv, hn⟩ := partsZ_valid s h0
  generalize (partsZ s).1 = y at *
  generalize (partsZ s).2.1 = m at *
  generalize (partsZ s).2.2 = d at *
  have hl := longZ_range y m
  have hc := hv.cum
  obtain ⟨y0, m0, m1, d0, d1⟩ := hv
  have hlp := lpZ_range y
  have hy : 1900 ≤ y ∧ y ≤ 9999 := by
    have h9 := dayZ_1900
    by_cases hlo : y < 1900
    · have := dayZ_mono y 1900 y0 hlo
      unfold numZ at hn
      omega
    · unfold numZ dayZ at hn
      omega
  omega
theorem dates_Print_eq (s : Int) (h0 : 1 ≤ s) (h1 : s ≤ 2958464) : dates_Print.f s = some (bl (dayL (partsZ s).1 (partsZ s).2.1 (partsZ s).2.2), 0) := by
  obtain ⟨y0, y1, m0, m1, d0, d1⟩ := day_range s h0 h1
  unfold dates_Print.f dayL
  rw [dates_is_eq, Option.bind_some, decide_eq_true ⟨h0, h1⟩, if_pos rfl, dates_parts_eq s h0 (by omega), Option.bind_some]
  generalize (partsZ s).1 = y at *
  generalize (partsZ s).2.1 = m at *
  generalize (partsZ s).2.2 = d at *
  obtain ⟨y, rfl⟩ := Int.eq_ofNat_of_zero_le (show 0 ≤ y by omega)
  obtain ⟨m, rfl⟩ := Int.eq_ofNat_of_zero_le (show 0 ≤ m by omega)
  obtain ⟨d, rfl⟩ := Int.eq_ofNat_of_zero_le (show 0 ≤ d by omega)
  have p1 : dates_padded.f y 4 = some (bl (padL y 4)) := dates_padded_eq y 4 (by omega) (by omega)
  have p2 : dates_padded.f m 2 = some (bl (padL m 2)) := dates_padded_eq m 2 (by omega) (by omega)
  have p3 : dates_padded.f d 2 = some (bl (padL d 2)) := dates_padded_eq d 2 (by omega) (by omega)
  have l1 := padL_length y 4 (by omega) (by omega)
  have l2 := padL_length m 2 (by omega) (by omega)
  have l3 := padL_length d 2 (by omega) (by omega)
  rw [p1, Option.bind_some, bl_size, if_pos (by omega), p2, Option.bind_some, show (⟨#[45]⟩ : ByteArray) = bl [45] from rfl, bl_append, bl_size, bl_size, if_pos (by simp; omega), bl_append, bl_size, if_pos (by simp; omega), p3, Option.bind_some, bl_append, bl_size, bl_size, if_pos (by simp; omega), bl_append]
  simp only [Int.toNat_natCast]
theorem ref11_Print_at (k : Nat) (hk : 30 ≤ k) (y m d s : Int) (h : foolscapref11_Parts.f k s = some (y, m, d, 0)) (y0 : 0 ≤ y) (y1 : y ≤ 9999) (m0 : 0 ≤ m) (m1 : m ≤ 99) (d0 : 0 ≤ d) (d1 : d ≤ 99) : foolscapref11_Print.f k s = some (bl (dayL y m d), 0) := by
  unfold foolscapref11_Print.f dayL
  rw [h, Option.bind_some]
  simp only
  rw [if_pos trivial]
  obtain ⟨y, rfl⟩ := Int.eq_ofNat_of_zero_le y0
  obtain ⟨m, rfl⟩ := Int.eq_ofNat_of_zero_le m0
  obtain ⟨d, rfl⟩ := Int.eq_ofNat_of_zero_le d0
  have p1 : foolscapref11_padded.f k y 4 = some (bl (padL y 4)) := ref11_padded_eq k hk y 4 (by omega) (by omega)
  have p2 : foolscapref11_padded.f k m 2 = some (bl (padL m 2)) := ref11_padded_eq k hk m 2 (by omega) (by omega)
  have p3 : foolscapref11_padded.f k d 2 = some (bl (padL d 2)) := ref11_padded_eq k hk d 2 (by omega) (by omega)
  have l1 := padL_length y 4 (by omega) (by omega)
  have l2 := padL_length m 2 (by omega) (by omega)
  have l3 := padL_length d 2 (by omega) (by omega)
  rw [p1, Option.bind_some, bl_size, if_pos (by omega), p2, Option.bind_some, show (⟨#[45]⟩ : ByteArray) = bl [45] from rfl, bl_append, bl_size, bl_size, if_pos (by simp; omega), bl_append, bl_size, if_pos (by simp; omega), p3, Option.bind_some, bl_append, bl_size, bl_size, if_pos (by simp; omega), bl_append]
  simp only [Int.toNat_natCast]
/-! ### Parts: the reference's loops -/
theorem ref11_Parts_l1 (y : Int) (hy : 0 ≤ y) (hy1 : y ≤ 20000) (j : Nat) : ∀ (k : Nat) (left m : Int), j < k → (j : Int) = 12 - m → 1 ≤ m → 1 ≤ left → left ≤ cumZ y 13 - cumZ y m → ∃ m' d', foolscapref11_Parts.l1 k y left m = some (y, m', d', 0) ∧ ValidD y m' d' ∧ cumZ y m' + d' = cumZ y m + left := by
  induction j with
  | zero =>
    intro k left m hk hm h1 h2 h3
    obtain ⟨k, rfl⟩ : ∃ q, k = q + 1 := ⟨k - 1, by omega⟩
    obtain rfl : m = 12 := by omega
    have hc := cumZ_succ y 12 (by omega) (by omega)
    have hc2 : cumZ y (12 + 1) = cumZ y 13 := rfl
    simp only [foolscapref11_Parts.l1]
    rw [ref11_Long_eq, Option.bind_some, if_neg (by omega)]
    exact ⟨12, left, rfl, ⟨hy, by omega, by omega, h2, by omega⟩, rfl⟩
  | succ j ih =>
    intro k left m hk hm h1 h2 h3
    obtain ⟨k, rfl⟩ : ∃ q, k = q + 1 := ⟨k - 1, by omega⟩
    have hc := cumZ_succ y m h1 (by omega)
    have hl := longZ_range y m
    have hr : cumZ y 13 ≤ 400 := by rw [cumZ_last]; have := lpZ_range y; omega
    have hr0 : 0 ≤ cumZ y m := by unfold cumZ; have := lpZ_range y; split <;> omega
    simp only [foolscapref11_Parts.l1]
    rw [ref11_Long_eq, Option.bind_some]
    by_cases c : left > longZ y m
    · rw [if_pos c, Option.bind_some, w64 (a := left - longZ y m) (by omega) (by omega), w64 (a := m + 1) (by omega) (by omega)]
      obtain ⟨m', d', e1, e2, e3⟩ := ih k (left - longZ y m) (m + 1) (by omega) (by omega) (by omega) (by omega) (by omega)
      exact ⟨m', d', e1, e2, by omega⟩
    · rw [if_neg c]
      exact ⟨m, left, rfl, ⟨hy, h1, by omega, h2, by omega⟩, rfl⟩
theorem ref11_Parts_l0 (s : Int) (h0 : 1 ≤ s) (h1 : s ≤ 2958464) (j : Nat) : ∀ (k : Nat) (y left : Int), j + 20 < k → (j : Int) = 10000 - y → 1900 ≤ y → 1 ≤ left → dayZ y - 693961 + left = s → ∃ y' m' d', foolscapref11_Parts.l0 k y left = some (y', m', d', 0) ∧ ValidD y' m' d' ∧ numZ y' m' d' = s := by
  induction j with
  | zero =>
    intro k y left hk hy h2 h3 h4
    exfalso
    obtain rfl : y = 10000 := by omega
    have : dayZ 10000 = 3652425 := by decide
    omega
  | succ j ih =>
    intro k y left hk hy h2 h3 h4
    obtain ⟨k, rfl⟩ : ∃ q, k = q + 2 := ⟨k - 2, by omega⟩
    have hs := dayZ_succ y (by omega)
    have hlp := lpZ_range y
    have hlv : lpZ y = if leapB y = true then 1 else 0 := rfl
    have hd := dayZ_range y (by omega) (by omega)
    have stop : left ≤ 365 + lpZ y → ∃ y' m' d', foolscapref11_Parts.j2 (k + 1) y left = some (y', m', d', 0) ∧ ValidD y' m' d' ∧ numZ y' m' d' = s := by
      intro hle
      obtain ⟨m', d', e1, e2, e3⟩ := ref11_Parts_l1 y (by omega) (by omega) 11 k left 1 (by omega) (by omega) (by omega) h3 (by rw [cumZ_last, cumZ_first]; omega)
      refine ⟨y, m', d', ?_, e2, ?_⟩
      · simp only [foolscapref11_Parts.j2]; exact e1
      · rw [cumZ_first] at e3
        unfold numZ
        omega
    rw [show k + 2 = (k + 1) + 1 from rfl]
    simp only [foolscapref11_Parts.l0]
    rw [ref11_Leap_eq, Option.bind_some]
    cases hb : leapB y with
    | true =>
      rw [hb] at hlv
      simp only [if_true] at hlv
      rw [if_pos rfl]
      by_cases c : left ≤ 366
      · rw [if_pos c]; exact stop (by omega)
      · rw [if_neg c, w64 (a := y + 1) (by omega) (by omega), w64 (a := left - 366) (by omega) (by omega)]
        exact ih (k + 1) (y + 1) (left - 366) (by omega) (by omega) (by omega) (by omega) (by omega)
    | false =>
      rw [hb] at hlv
      simp only [Bool.false_eq_true, if_false] at hlv
      rw [if_neg (by decide)]
      by_cases c : left ≤ 365
      · rw [if_pos c]; exact stop (by omega)
      · rw [if_neg c, w64 (a := y + 1) (by omega) (by omega), w64 (a := left - 365) (by omega) (by omega)]
        exact ih (k + 1) (y + 1) (left - 365) (by omega) (by omega) (by omega) (by omega) (by omega)
theorem ref11_Parts_eq (k : Nat) (hk : 10000 ≤ k) (s : Int) : foolscapref11_Parts.f k s = some (if 1 ≤ s ∧ s ≤ 2958464 then ((partsZ s).1, (partsZ s).2.1, (partsZ s).2.2, 0) else (0, 0, 0, 2)) := by
  obtain ⟨k, rfl⟩ : ∃ q, k = q + 1 := ⟨k - 1, by omega⟩
  unfold foolscapref11_Parts.f
  by_cases c1 : s < 1
  · rw [if_pos c1, if_neg (by omega)]; simp only [foolscapref11_Parts.j0]; rw [if_pos trivial]
  · rw [if_neg c1]
    by_cases c2 : s > 2958464
    · rw [decide_eq_true c2, if_neg (by omega)]; simp only [foolscapref11_Parts.j0]; rw [if_pos trivial]
    · rw [decide_eq_false c2, if_pos (by omega)]
      simp only [foolscapref11_Parts.j0]
      rw [if_neg (by decide)]
      obtain ⟨y, m, d, e1, e2, e3⟩ := ref11_Parts_l0 s (by omega) (by omega) 8100 k 1900 s (by omega) (by omega) (by omega) (by omega) (by rw [dayZ_1900]; omega)
      have hp := partsZ_of y m d e2 (by omega)
      rw [e3] at hp
      rw [e1, hp]
theorem dates_Parts_eq (s : Int) : dates_Parts.f s = some (if 1 ≤ s ∧ s ≤ 2958464 then ((partsZ s).1, (partsZ s).2.1, (partsZ s).2.2, 0) else (0, 0, 0, 2)) := by
  unfold dates_Parts.f
  rw [dates_is_eq, Option.bind_some]
  by_cases c : 1 ≤ s ∧ s ≤ 2958464
  · rw [decide_eq_true c, if_pos rfl, if_pos c, dates_parts_eq s (by omega) (by omega), Option.bind_some]
  · rw [decide_eq_false c, if_neg (by decide), if_neg c]
theorem dates_Weekday_eq (s : Int) : dates_Weekday.f s = some (if 1 ≤ s ∧ s ≤ 2958464 then (s % 7 + 1, 0) else (0, 2)) := by
  unfold dates_Weekday.f
  rw [dates_is_eq, Option.bind_some]
  by_cases c : 1 ≤ s ∧ s ≤ 2958464
  · rw [decide_eq_true c, if_pos rfl, if_pos c, Int.tmod_eq_emod_of_nonneg (by omega), w64 (by omega) (by omega)]
  · rw [decide_eq_false c, if_neg (by decide), if_neg c]
theorem ref11_Weekday_eq (s : Int) : foolscapref11_Weekday.f s = dates_Weekday.f s := by
  rw [dates_Weekday_eq]
  unfold foolscapref11_Weekday.f
  by_cases c : 1 ≤ s ∧ s ≤ 2958464
  · rw [if_neg (by omega), if_neg (by omega), if_pos c, Int.tmod_eq_emod_of_nonneg (by omega), w64 (by omega) (by omega)]
  · rw [if_neg c]
    by_cases c1 : s < 1
    · rw [if_pos c1]
    · rw [if_neg c1, if_pos (by omega)]
theorem dates_Print_any (s : Int) : dates_Print.f s = some (if 1 ≤ s ∧ s ≤ 2958464 then (bl (dayL (partsZ s).1 (partsZ s).2.1 (partsZ s).2.2), 0) else (bl [], 2)) := by
  by_cases c : 1 ≤ s ∧ s ≤ 2958464
  · rw [if_pos c, dates_Print_eq s c.1 c.2]
  · rw [if_neg c]
    unfold dates_Print.f
    rw [dates_is_eq, Option.bind_some, decide_eq_false c, if_neg (by decide)]
    rfl
theorem ref11_Print_any (k : Nat) (hk : 10000 ≤ k) (s : Int) : foolscapref11_Print.f k s = dates_Print.f s := by
  rw [dates_Print_any]
  have hp := ref11_Parts_eq k hk s
  by_cases c : 1 ≤ s ∧ s ≤ 2958464
  · rw [if_pos c] at hp ⊢
    obtain ⟨y0, y1, m0, m1, d0, d1⟩ := day_range s c.1 c.2
    exact ref11_Print_at k (by omega) _ _ _ s hp (by omega) (by omega) (by omega) (by omega) (by omega) (by omega)
  · rw [if_neg c] at hp ⊢
    unfold foolscapref11_Print.f
    rw [hp, Option.bind_some]
    rfl
end Go.Proofs.YtiloagepldeeeaaDoor.Pr
