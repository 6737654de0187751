/-
  The law DatesRow, over whole numbers alone, and the walk that follows.
-/
import Derived.Test.YtiloagepldeeeaaDoorPr17
import Derived.Test.YtiloagepldeeeaaDoorPDatesLives
namespace Go.Proofs.YtiloagepldeeeaaDoor.Pr
set_option linter.unusedVariables false
set_option linter.unusedSimpArgs false
open Go.RowKit Go.Proofs.YtiloagepldeeeaaDoorW.PrintWords Go.Proofs.YtiloagepldeeeaaDoorW.PrintMore
/-- the day behind a day. -/
theorem partsZ_next (s : Int) (h0 : 1 ≤ s) (h1 : s ≤ 2958463) : (partsZ (s + 1) = ((partsZ s).1, (partsZ s).2.1, (partsZ s).2.2 + 1)) ∨
    (28 ≤ (partsZ s).2.2 ∧ (partsZ (s + 1) = ((partsZ s).1, (partsZ s).2.1 + 1, 1) ∨ (partsZ s).2.1 = 12 ∧ partsZ (s + 1) = ((partsZ s).1 + 1, 1, 1))) := by
  obtain ⟨hv, hn⟩ := partsZ_valid s h0
  generalize (partsZ s).1 = y at *
  generalize (partsZ s).2.1 = m at *
  generalize (partsZ s).2.2 = d at *
  have hl := longZ_range y m
  have y0 := hv.y0; have m0 := hv.m0; have m1 := hv.m1; have d0 := hv.d0; have d1 := hv.d1
  have fits : ∀ y' m' d', ValidD y' m' d' → numZ y' m' d' = s + 1 → partsZ (s + 1) = (y', m', d') := by
    intro y' m' d' hv' hn'
    rw [← hn']
    exact partsZ_of y' m' d' hv' (by omega)
  by_cases c : d < longZ y m
  · exact .inl (fits y m (d + 1) ⟨y0, m0, m1, by omega, by omega⟩ (by unfold numZ at *; omega))
  · have hd : d = longZ y m := by omega
    refine .inr ⟨by omega, ?_⟩
    by_cases cm : m = 12
    · subst cm
      have hl1 := longZ_range (y + 1) 1
      have hs := dayZ_succ y y0
      have hc := cumZ_succ y 12 (by omega) (by omega)
      have hc2 : cumZ y (12 + 1) = 365 + lpZ y := cumZ_last y
      refine .inr ⟨rfl, fits (y + 1) 1 1 ⟨by omega, by omega, by omega, by omega, by omega⟩ ?_⟩
      unfold numZ at *
      rw [cumZ_first]
      omega
    · have hl1 := longZ_range y (m + 1)
      have hc := cumZ_succ y m m0 (by omega)
      refine .inl (fits y (m + 1) 1 ⟨y0, by omega, by omega, by omega, by omega⟩ ?_)
      unfold numZ at *
      omega
theorem DatesRow_j0 (s : Int) (h0 : 1 ≤ s) (h1 : s ≤ 2958463) : foolscaplaw11_DatesRow.j0 10 s false = some true := by
  obtain ⟨y0, y1, m0, m1, d0, d1⟩ := day_range s h0 (by omega)
  have hn := partsZ_next s h0 h1
  simp only [foolscaplaw11_DatesRow.j0]
  rw [if_neg (by decide), w64 (a := s + 1) (by omega) (by omega), dates_Parts_eq, dates_Parts_eq, dates_Weekday_eq, dates_Weekday_eq, if_pos (by omega), if_pos (by omega), if_pos (by omega), if_pos (by omega), dates_lives 9 (by decide)]
  simp only [Option.bind_some]
  generalize (partsZ s).1 = y at *
  generalize (partsZ s).2.1 = m at *
  generalize (partsZ s).2.2 = d at *
  rw [Int.tmod_eq_emod_of_nonneg (by omega), w64 (a := (s % 7 + 1) % 7 + 1) (by omega) (by omega), w64 (a := m + 1) (by omega) (by omega), w64 (a := d + 1) (by omega) (by omega), w64 (a := y + 1) (by omega) (by omega)]
  rw [if_pos trivial, if_pos trivial, if_pos trivial, if_pos trivial, if_pos (by omega)]
  rcases hn with hn | ⟨h28, hn | ⟨hm, hn⟩⟩
  all_goals
    rw [hn]
    simp only
    (repeat' split) <;> first | rfl | (exfalso; omega) | (exfalso; simp_all; done) | (exfalso; simp_all; omega)
theorem DatesRow_pure (a0 : Int) : foolscaplaw11_DatesRow.f 10 a0 = some true := by
  have out : foolscaplaw11_DatesRow.j0 10 a0 true = some true := by simp only [foolscaplaw11_DatesRow.j0]; rw [dates_lives 9 (by decide)]; simp
  unfold foolscaplaw11_DatesRow.f
  by_cases c1 : a0 < 1
  · rw [if_pos c1, out]
  · rw [if_neg c1]
    by_cases c2 : a0 > 2958463
    · rw [decide_eq_true c2, out]
    · rw [decide_eq_false c2]
      exact DatesRow_j0 a0 (by omega) (by omega)
theorem DatesRow_walk (a0 : Int) (w : World) (w0 : (Lit.int .i64 a0).wf = true) (hL : Aside0 (LaidW w)) :
    Calls Tryd.prog 10 #[.int .i64 a0] w fun e w' => e = .returned (.bool true) ∧ Below w.heap.size w w' :=
  foolscaplaw11_DatesRow.calls 10 a0 true w (DatesRow_pure a0) hL
end Go.Proofs.YtiloagepldeeeaaDoor.Pr
