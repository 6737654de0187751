/-
  A day so many months further: what the program and the document tell, over whole numbers alone.
-/
import Derived.Test.YtiloagepldeeeaaDoorPr4
import Derived.Test.YtiloagepldeeeaaDoorPr8
import Derived.Test.YtiloagepldeeeaaDoorPDatesText
namespace Go.Proofs.YtiloagepldeeeaaDoor.Pr
set_option linter.unusedVariables false
set_option linter.unusedSimpArgs false
open Go.RowKit Go.Proofs.YtiloagepldeeeaaDoorW.PrintWords Go.Proofs.YtiloagepldeeeaaDoorW.PrintMore
/-- the month so many months behind a day's. -/
def monK (s n : Int) : Int := 12 * (partsZ s).1 + (partsZ s).2.1 - 1 + n
/-- the lesser day: a day of its own month, or the last. -/
def minD (d l : Int) : Int := if d ≤ l then d else l
def monthsZ (s n : Int) : Int × Int :=
  if 1 ≤ s ∧ s ≤ 2958464 then
    if n < -120000 ∨ 120000 < n then (0, 2)
    else if monK s n < 22800 ∨ 120000 ≤ monK s n then (0, 3)
    else (numZ (monK s n / 12) (monK s n % 12 + 1) (minD (partsZ s).2.2 (longZ (monK s n / 12) (monK s n % 12 + 1))), 0)
  else (0, 2)
theorem mn_minD (a b : Int) : mn a b = minD a b := by unfold mn minD; first | rfl | omega | (split <;> split <;> omega)
theorem minD_le (a b : Int) : minD a b ≤ a ∧ minD a b ≤ b ∧ (minD a b = a ∨ minD a b = b) := by unfold minD; split <;> omega
theorem dates_Months_eq (k : Nat) (hk : 2 ≤ k) (s n : Int) : dates_Months.f k s n = some (monthsZ s n) := by
  obtain ⟨j, rfl⟩ : ∃ j, k = j + 2 := ⟨k - 2, by omega⟩
  unfold dates_Months.f monthsZ
  rw [dates_is_eq, Option.bind_some]
  by_cases c : 1 ≤ s ∧ s ≤ 2958464
  · rw [if_pos c, if_pos (decide_eq_true c), dates_far_eq n 120000 (by omega) (by omega), Option.bind_some]
    by_cases c2 : n < -120000 ∨ 120000 < n
    · rw [if_pos c2, decide_eq_true c2]; simp only [dates_Months.j0]; rw [if_pos trivial]
    · rw [if_neg c2, decide_eq_false c2]
      obtain ⟨y0, y1, m0, m1, d0, d1⟩ := day_range s c.1 c.2
      simp only [dates_Months.j0]
      rw [if_neg (show ¬ (false = true) by decide), dates_parts_eq s (by omega) (by omega), Option.bind_some]
      rw [show wrap64 (wrap64 (wrap64 (wrap64 (12 * (partsZ s).1) + (partsZ s).2.1) - 1) + n) = monK s n by
        unfold monK; simp (disch := omega) only [w64]]
      have hK : -130000 ≤ monK s n ∧ monK s n ≤ 250000 := by unfold monK; omega
      generalize monK s n = K at *
      by_cases c3 : K < 22800
      · rw [if_pos c3, if_pos (.inl c3)]; simp only [dates_Months.j1]; rw [if_pos trivial]
      · rw [if_neg c3, Int.tdiv_eq_ediv_of_nonneg (by omega), Int.tmod_eq_emod_of_nonneg (by omega), w64 (a := K / 12) (by omega) (by omega), w64 (a := K % 12 + 1) (by omega) (by omega)]
        by_cases c4 : 120000 ≤ K
        · rw [if_pos (.inr c4), decide_eq_true (show K / 12 > 9999 by omega)]; simp only [dates_Months.j1]; rw [if_pos trivial]
        · rw [if_neg (show ¬ (K < 22800 ∨ 120000 ≤ K) by omega), decide_eq_false (show ¬ (K / 12 > 9999) by omega)]
          simp only [dates_Months.j1]
          have hm := minD_le (partsZ s).2.2 (longZ (K / 12) (K % 12 + 1))
          have hl := longZ_range (K / 12) (K % 12 + 1)
          rw [if_neg (show ¬ (false = true) by decide), dates_long_eq _ _ (by omega) (by omega), Option.bind_some, mn_minD, dates_count_eq _ _ _ (by omega) (by omega) (by omega) (by omega) (by omega) (by omega), Option.bind_some]
  · rw [if_neg c, if_neg (show ¬ (decide (1 ≤ s ∧ s ≤ 2958464) = true) by rw [decide_eq_false c]; decide)]
    simp only [dates_Months.j0]; rw [if_pos trivial]
theorem ref11_Months_eq (k : Nat) (hk : 20010 ≤ k) (s n : Int) : foolscapref11_Months.f k s n = some (monthsZ s n) := by
  obtain ⟨j, rfl⟩ : ∃ j, k = j + 2 := ⟨k - 2, by omega⟩
  unfold foolscapref11_Months.f monthsZ
  rw [ref11_Parts_eq _ (by omega), Option.bind_some]
  by_cases c : 1 ≤ s ∧ s ≤ 2958464
  · rw [if_pos c, if_pos c]
    simp only []
    rw [if_pos trivial, ref11_far_eq, dates_far_eq n 120000 (by omega) (by omega), Option.bind_some]
    by_cases c2 : n < -120000 ∨ 120000 < n
    · rw [if_pos c2, decide_eq_true c2]; simp only [foolscapref11_Months.j0]; rw [if_pos trivial]
    · rw [if_neg c2, decide_eq_false c2]
      obtain ⟨y0, y1, m0, m1, d0, d1⟩ := day_range s c.1 c.2
      simp only [foolscapref11_Months.j0]
      rw [if_neg (show ¬ (false = true) by decide)]
      rw [show wrap64 (wrap64 (wrap64 (wrap64 (12 * (partsZ s).1) + (partsZ s).2.1) - 1) + n) = monK s n by
        unfold monK; simp (disch := omega) only [w64]]
      have hK : -130000 ≤ monK s n ∧ monK s n ≤ 250000 := by unfold monK; omega
      generalize monK s n = K at *
      by_cases c3 : K < 22800
      · rw [if_pos c3, if_pos (.inl c3)]; simp only [foolscapref11_Months.j1]; rw [if_pos trivial]
      · rw [if_neg c3]
        by_cases c4 : 120000 ≤ K
        · rw [if_pos (.inr c4), decide_eq_true (show K ≥ 120000 by omega)]; simp only [foolscapref11_Months.j1]; rw [if_pos trivial]
        · rw [if_neg (show ¬ (K < 22800 ∨ 120000 ≤ K) by omega), decide_eq_false (show ¬ (K ≥ 120000) by omega)]
          simp only [foolscapref11_Months.j1]
          rw [if_neg (show ¬ (false = true) by decide), Int.tdiv_eq_ediv_of_nonneg (by omega), Int.tmod_eq_emod_of_nonneg (by omega), w64 (a := K / 12) (by omega) (by omega), w64 (a := K % 12 + 1) (by omega) (by omega)]
          have hm := minD_le (partsZ s).2.2 (longZ (K / 12) (K % 12 + 1))
          have hl := longZ_range (K / 12) (K % 12 + 1)
          have hr := numZ_range (K / 12) (K % 12 + 1) (by omega) (by omega) (by omega) (by omega)
          rw [ref11_first_eq j (by omega) _ _ (by omega) (by omega) (by omega) (by omega), Option.bind_some, ref11_Long_eq, Option.bind_some, mn_minD, w64 (a := numZ (K / 12) (K % 12 + 1) 1 + _) (by omega) (by omega), w64 (by omega) (by omega), ← numZ_day]
  · rw [if_neg c, if_neg c]
    simp only []
    rw [if_neg (show ¬ ((2 : Int) = 0) by decide)]
    simp only [foolscapref11_Months.j0]; rw [if_pos trivial]
end Go.Proofs.YtiloagepldeeeaaDoor.Pr
