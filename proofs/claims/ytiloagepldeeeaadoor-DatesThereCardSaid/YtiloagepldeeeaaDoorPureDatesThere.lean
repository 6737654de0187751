/-
  The law DatesThere, over whole numbers alone, and the walk that follows.
-/
import Derived.Test.YtiloagepldeeeaaDoorPr18
import Derived.Test.YtiloagepldeeeaaDoorPDatesMonths
import Derived.Test.YtiloagepldeeeaaDoorPDatesLives
namespace Go.Proofs.YtiloagepldeeeaaDoor.Pr
set_option linter.unusedVariables false
set_option linter.unusedSimpArgs false
open Go.RowKit Go.Proofs.YtiloagepldeeeaaDoorW.PrintWords Go.Proofs.YtiloagepldeeeaaDoorW.PrintMore
/-- a day of a year that is named lies among the days. -/
theorem numZ_in {y m d : Int} (h : ValidD y m d) (h0 : 1900 ≤ y) (h1 : y ≤ 9999) : 1 ≤ numZ y m d ∧ numZ y m d ≤ 2958464 := by
  have hc := h.cum
  have h2 := dayZ_mono y 10000 (by omega) (by omega)
  have h3 : dayZ 10000 = 3652425 := by decide
  have h4 := dayZ_1900
  have h5 := lpZ_range 1900
  have h6 : y = 1900 ∨ dayZ 1900 + 365 + lpZ 1900 ≤ dayZ y := by
    by_cases c : y = 1900
    · exact .inl c
    · exact .inr (dayZ_mono 1900 y (by omega) (by omega))
  unfold numZ
  rcases h6 with rfl | h6 <;> omega
/-- what Months tells, where it tells a day. -/
theorem monthsZ_ok {s n : Int} (h : (monthsZ s n).2 = 0) : 1 ≤ s ∧ s ≤ 2958464 ∧ -120000 ≤ n ∧ n ≤ 120000 ∧ ∃ y m d Y M D, partsZ s = (y, m, d) ∧ ValidD y m d ∧ numZ y m d = s ∧ 1900 ≤ y ∧ y ≤ 9999 ∧ 12 * Y + M = 12 * y + m + n ∧ 1900 ≤ Y ∧ Y ≤ 9999 ∧
    D ≤ d ∧ (d ≤ 28 → D = d) ∧ ValidD Y M D ∧ monthsZ s n = (numZ Y M D, 0) ∧ partsZ (numZ Y M D) = (Y, M, D) ∧ 1 ≤ numZ Y M D ∧ numZ Y M D ≤ 2958464 := by
  unfold monthsZ at h ⊢
  by_cases c : 1 ≤ s ∧ s ≤ 2958464
  · rw [if_pos c] at h ⊢
    by_cases c2 : n < -120000 ∨ 120000 < n
    · rw [if_pos c2] at h; exact absurd h (by decide)
    · rw [if_neg c2] at h ⊢
      by_cases c3 : monK s n < 22800 ∨ 120000 ≤ monK s n
      · rw [if_pos c3] at h; exact absurd h (by decide)
      · rw [if_neg c3]
        obtain ⟨y0, y1, m0, m1, d0, d1⟩ := day_range s c.1 c.2
        obtain ⟨hv, hn⟩ := partsZ_valid s c.1
        have hK : monK s n = 12 * (partsZ s).1 + (partsZ s).2.1 - 1 + n := rfl
        generalize monK s n = K at *
        have hm := minD_le (partsZ s).2.2 (longZ (K / 12) (K % 12 + 1))
        have hl := longZ_range (K / 12) (K % 12 + 1)
        have hv' : ValidD (K / 12) (K % 12 + 1) (minD (partsZ s).2.2 (longZ (K / 12) (K % 12 + 1))) := ⟨by omega, by omega, by omega, by omega, by omega⟩
        have hi := numZ_in hv' (by omega) (by omega)
        exact ⟨c.1, c.2, by omega, by omega, (partsZ s).1, (partsZ s).2.1, (partsZ s).2.2, K / 12, K % 12 + 1, minD (partsZ s).2.2 (longZ (K / 12) (K % 12 + 1)), (show partsZ s = ((partsZ s).1, (partsZ s).2.1, (partsZ s).2.2) from rfl), hv, hn, y0, y1, by omega, by omega, by omega, hm.1, by omega, hv', rfl, partsZ_of _ _ _ hv' hi.1, hi.1, hi.2⟩
  · rw [if_neg c] at h; exact absurd h (by decide)
theorem monthsZ_bad {s n : Int} (h : ¬ (monthsZ s n).2 = 0) : (monthsZ s n).1 = 0 := by
  unfold monthsZ at h ⊢
  split
  · split
    · rfl
    · split
      · rfl
      · rename_i c c2 c3
        rw [if_pos c, if_neg c2, if_neg c3] at h
        exact absurd rfl h
  · rfl
/-- and back again. -/
theorem monthsZ_back {v n y m D Y M : Int} (hv : 1 ≤ v ∧ v ≤ 2958464) (hn : -120000 ≤ n ∧ n ≤ 120000) (hp : partsZ v = (Y, M, D)) (h : 12 * Y + M = 12 * y + m + n) (m0 : 1 ≤ m) (m1 : m ≤ 12) (y0 : 1900 ≤ y) (y1 : y ≤ 9999) (hD : D ≤ longZ y m) :
    monthsZ v (-n) = (numZ y m D, 0) := by
  have hK : monK v (-n) = 12 * y + m - 1 := by unfold monK; rw [hp]; simp only []; omega
  unfold monthsZ
  rw [if_pos hv, if_neg (by omega), hK, if_neg (by omega), show (12 * y + m - 1) / 12 = y by omega, show (12 * y + m - 1) % 12 + 1 = m by omega, hp]
  simp only []
  rw [show minD D (longZ y m) = D by unfold minD; rw [if_pos hD]]
theorem DatesThere_pure (a0 a1 : Int) (h0 : -9223372036854775808 ≤ a1) (h1 : a1 ≤ 9223372036854775807) : foolscaplaw11_DatesThere.f 10 a0 a1 = some true := by
  unfold foolscaplaw11_DatesThere.f
  rw [dates_Months_eq 10 (by decide), Option.bind_some]
  by_cases c : (monthsZ a0 a1).2 = 0
  · obtain ⟨s0, s1, n0, n1, y, m, d, Y, M, D, hp, hv, hs, y0, y1, hK, Y0, Y1, hD, hd, hV, he, hP, V0, V1⟩ := monthsZ_ok c
    have hl := hv.d1
    have hv2 : ValidD y m D := ⟨hv.y0, hv.m0, hv.m1, hV.d0, by omega⟩
    have hi := numZ_in hv2 y0 y1
    rw [if_pos c, he]
    simp only []
    rw [w64 (a := -a1) (by omega) (by omega), dates_Months_eq 10 (by decide), Option.bind_some, monthsZ_back ⟨V0, V1⟩ ⟨n0, n1⟩ hP hK hv.m0 hv.m1 y0 y1 (by omega)]
    simp only []
    rw [dates_Parts_eq, Option.bind_some, if_pos ⟨s0, s1⟩, dates_Parts_eq, Option.bind_some, if_pos hi, hp, partsZ_of _ _ _ hv2 hi.1]
    simp only []
    rw [if_pos trivial, if_pos trivial, if_pos trivial, if_neg (by omega)]
    have hj : foolscaplaw11_DatesThere.j0 10 a0 a1 (numZ Y M D) false = some true := by
      simp only [foolscaplaw11_DatesThere.j0]
      rw [if_neg (show ¬ (false = true) by decide), dates_lives 9 (by decide)]
      by_cases c2 : a1 ≥ 120000
      · rw [if_pos c2]; rfl
      · rw [if_neg c2, w64 (a := a1 + 1) (by omega) (by omega), dates_Months_eq 9 (by decide), Option.bind_some]
        by_cases c3 : (monthsZ a0 (a1 + 1)).2 = 0
        · obtain ⟨s0', s1', n0', n1', y', m', d', Y', M', D', hp', hv', hs', y0', y1', hK', Y0', Y1', hD', hd', hV', he', hP', V0', V1'⟩ := monthsZ_ok c3
          rw [hp] at hp'
          injection hp' with e1 e2
          injection e2 with e2 e3
          subst e1; subst e2; subst e3
          have a1 := hV.m0; have a2 := hV.m1; have a3 := hV'.m0; have a4 := hV'.m1
          have hlt := numZ_lt hV hV' (by omega)
          rw [if_pos c3, he']
          simp only []
          rw [if_pos (show numZ Y' M' D' > numZ Y M D by omega)]; rfl
        · rw [if_neg c3]; rfl
    by_cases c2 : d ≤ 28
    · rw [if_pos c2, hd c2, hs, bne_self_eq_false, ← hd c2]; exact hj
    · rw [if_neg c2]; exact hj
  · rw [if_neg c, if_pos (monthsZ_bad c), dates_lives 10 (by decide), Option.bind_some]
theorem DatesThere_walk (a0 a1 : Int) (w : World) (w0 : (Lit.int .i64 a0).wf = true) (w1 : (Lit.int .i64 a1).wf = true) (hL : Aside0 (LaidW w)) :
    Calls Tryd.prog 11 #[.int .i64 a0, .int .i64 a1] w fun e w' => e = .returned (.bool true) ∧ Below w.heap.size w w' :=
  foolscaplaw11_DatesThere.calls 10 a0 a1 true w (DatesThere_pure a0 a1 (i64_of_wf w1).1 (i64_of_wf w1).2) hL
end Go.Proofs.YtiloagepldeeeaaDoor.Pr
