/-
  Days, months and years: plain facts over whole numbers. No program is in sight.
-/
import Derived.KernelRfl
namespace Go.Proofs.YtiloagepldeeeaaDoor.Pr
set_option linter.unusedVariables false
/-! ### days and months -/
def leapB (y : Int) : Bool := decide (Int.tmod y 4 = 0 ∧ (¬ Int.tmod y 100 = 0 ∨ Int.tmod y 400 = 0))
def longZ (y m : Int) : Int := if m = 2 then (if leapB y = true then 29 else 28) else if m = 4 ∨ m = 6 ∨ m = 9 ∨ m = 11 then 30 else 31
def partsZ (s : Int) : Int × Int × Int :=
  let b := (s + 693901 - 1) % 146097
  let c := min (b / 36524) 3
  let n2 := b - c * 36524
  let e := n2 % 1461
  let f := min (e / 365) 3
  let n4 := e - f * 365
  let g := (5 * n4 + 2) / 153
  let y := 400 * ((s + 693901 - 1) / 146097) + 100 * c + 4 * (n2 / 1461) + f
  if g + 3 > 12 then (y + 1, g + 3 - 12, n4 - (153 * g + 2) / 5 + 1) else (y, g + 3, n4 - (153 * g + 2) / 5 + 1)
/-- 1 in a leap year. -/
def lpZ (y : Int) : Int := if leapB y = true then 1 else 0
theorem lpZ_cases (y : Int) (h : 0 ≤ y) : (lpZ y = 1 ∧ y % 4 = 0 ∧ (¬ y % 100 = 0 ∨ y % 400 = 0)) ∨ (lpZ y = 0 ∧ ¬ (y % 4 = 0 ∧ (¬ y % 100 = 0 ∨ y % 400 = 0))) := by
  unfold lpZ leapB
  rw [Int.tmod_eq_emod_of_nonneg h, Int.tmod_eq_emod_of_nonneg h, Int.tmod_eq_emod_of_nonneg h]
  by_cases c : y % 4 = 0 ∧ (¬ y % 100 = 0 ∨ y % 400 = 0)
  · exact .inl ⟨by rw [decide_eq_true c]; rfl, c⟩
  · exact .inr ⟨by rw [decide_eq_false c]; rfl, c⟩
theorem longZ_eq (y m : Int) : longZ y m = if m = 2 then 28 + lpZ y else if m = 4 ∨ m = 6 ∨ m = 9 ∨ m = 11 then 30 else 31 := by
  unfold longZ lpZ
  by_cases c : m = 2
  · rw [if_pos c, if_pos c]; split <;> rfl
  · rw [if_neg c, if_neg c]
/-- the days ahead of a year. -/
def dayZ (y : Int) : Int := 365 * y + (y + 3) / 4 - (y + 99) / 100 + (y + 399) / 400
theorem dayZ_succ (y : Int) (h : 0 ≤ y) : dayZ (y + 1) = dayZ y + 365 + lpZ y := by
  unfold dayZ
  rcases lpZ_cases y h with ⟨e, c⟩ | ⟨e, c⟩ <;> omega
/-- the days of a year ahead of a month. -/
def cumZ (y m : Int) : Int := (367 * m - 362) / 12 - (if m ≤ 2 then 0 else 2 - lpZ y)
theorem lpZ_range (y : Int) : 0 ≤ lpZ y ∧ lpZ y ≤ 1 := by unfold lpZ; split <;> omega
theorem cumZ_succ (y m : Int) (h1 : 1 ≤ m) (h2 : m ≤ 12) : cumZ y (m + 1) = cumZ y m + longZ y m := by
  have := lpZ_range y
  rw [longZ_eq]
  unfold cumZ
  have hc : m = 1 ∨ m = 2 ∨ m = 3 ∨ m = 4 ∨ m = 5 ∨ m = 6 ∨ m = 7 ∨ m = 8 ∨ m = 9 ∨ m = 10 ∨ m = 11 ∨ m = 12 := by omega
  rcases hc with rfl | rfl | rfl | rfl | rfl | rfl | rfl | rfl | rfl | rfl | rfl | rfl <;> simp <;> omega
theorem cumZ_first (y : Int) : cumZ y 1 = 0 := by unfold cumZ; simp
theorem cumZ_last (y : Int) : cumZ y 13 = 365 + lpZ y := by unfold cumZ; simp; omega
/-- a day's number. -/
def numZ (y m d : Int) : Int := dayZ y - 693961 + cumZ y m + d
structure ValidD (y m d : Int) : Prop where mk ::
  (y0 : 0 ≤ y) (m0 : 1 ≤ m) (m1 : m ≤ 12) (d0 : 1 ≤ d) (d1 : d ≤ longZ y m)
theorem longZ_range (y m : Int) : 28 ≤ longZ y m ∧ longZ y m ≤ 31 := by
  have := lpZ_range y
  rw [longZ_eq]
  split
  · omega
  · split <;> omega
theorem cumZ_mono (y m m' : Int) (h1 : 1 ≤ m) (h : m < m') (h2 : m' ≤ 13) : cumZ y m + longZ y m ≤ cumZ y m' := by
  have := lpZ_range y
  rw [← cumZ_succ y m h1 (by omega)]
  unfold cumZ
  split <;> split <;> omega
theorem dayZ_mono (y y' : Int) (h0 : 0 ≤ y) (h : y < y') : dayZ y + 365 + lpZ y ≤ dayZ y' := by
  rw [← dayZ_succ y h0]
  unfold dayZ
  omega
theorem ValidD.cum {y m d : Int} (h : ValidD y m d) : 1 ≤ cumZ y m + d ∧ cumZ y m + d ≤ 365 + lpZ y := by
  obtain ⟨y0, m0, m1, d0, d1⟩ := h
  have h1 := cumZ_mono y m 13 m0 (by omega) (by omega)
  rw [cumZ_last] at h1
  have h2 : 0 ≤ cumZ y m := by
    unfold cumZ
    have := lpZ_range y
    split <;> omega
  omega
/-- a later day has a greater number. -/
theorem numZ_lt {y m d y' m' d' : Int} (h : ValidD y m d) (h' : ValidD y' m' d') (hl : y < y' ∨ (y = y' ∧ (m < m' ∨ (m = m' ∧ d < d')))) : numZ y m d < numZ y' m' d' := by
  unfold numZ
  rcases hl with hl | ⟨rfl, hl | ⟨rfl, hl⟩⟩
  · have := dayZ_mono y y' h.y0 hl
    have := h.cum; have := h'.cum
    omega
  · have := cumZ_mono y m m' h.m0 hl (by have := h'.m1; omega)
    have := h.d1; have := h'.d0
    omega
  · omega
theorem numZ_inj {y m d y' m' d' : Int} (h : ValidD y m d) (h' : ValidD y' m' d') (he : numZ y m d = numZ y' m' d') : y = y' ∧ m = m' ∧ d = d' := by
  by_cases c : y < y' ∨ (y = y' ∧ (m < m' ∨ (m = m' ∧ d < d')))
  · have := numZ_lt h h' c; omega
  · by_cases c' : y' < y ∨ (y' = y ∧ (m' < m ∨ (m' = m ∧ d' < d)))
    · have := numZ_lt h' h c'; omega
    · omega
/-- the count by years that begin with March. -/
def countZ (y m d : Int) : Int := if m - 3 < 0 then (y - 1) / 400 * 146097 + (y - 1) % 400 * 365 + (y - 1) % 400 / 4 - (y - 1) % 400 / 100 + ((153 * (m - 3 + 12) + 2) / 5 + d - 1) - 693901 + 1
  else y / 400 * 146097 + y % 400 * 365 + y % 400 / 4 - y % 400 / 100 + ((153 * (m - 3) + 2) / 5 + d - 1) - 693901 + 1
theorem countZ_num (y m d : Int) (hy : 1 ≤ y) (h1 : 1 ≤ m) (h2 : m ≤ 12) : countZ y m d = numZ y m d := by
  have hc : m = 1 ∨ m = 2 ∨ m = 3 ∨ m = 4 ∨ m = 5 ∨ m = 6 ∨ m = 7 ∨ m = 8 ∨ m = 9 ∨ m = 10 ∨ m = 11 ∨ m = 12 := by omega
  unfold countZ numZ cumZ dayZ
  rcases lpZ_cases y (by omega) with ⟨e, c⟩ | ⟨e, c⟩ <;> rcases hc with rfl | rfl | rfl | rfl | rfl | rfl | rfl | rfl | rfl | rfl | rfl | rfl <;> simp <;> omega
theorem partsZ_core (N a b c n2 d e f n4 g : Int) (hN : 0 ≤ N) (ha : N / 146097 = a) (hb : N % 146097 = b) (hc : min (b / 36524) 3 = c) (hn2 : b - c * 36524 = n2) (hd : n2 / 1461 = d) (he : n2 % 1461 = e) (hf : min (e / 365) 3 = f) (hn4 : e - f * 365 = n4) (hg : (5 * n4 + 2) / 153 = g) :
    0 ≤ a ∧ 0 ≤ c ∧ c ≤ 3 ∧ 0 ≤ d ∧ d ≤ 24 ∧ 0 ≤ f ∧ f ≤ 3 ∧ 0 ≤ n4 ∧ n4 ≤ 365 ∧ 0 ≤ g ∧ g ≤ 11 ∧ N = 146097 * a + 36524 * c + 1461 * d + 365 * f + n4 ∧ (n4 = 365 → f = 3 ∧ (d = 24 → c = 3)) ∧ 153 * g ≤ 5 * n4 + 2 ∧ 5 * n4 + 2 < 153 * g + 153 := by
  have h1 : 0 ≤ b ∧ b < 146097 := by omega
  have h2 : 0 ≤ c ∧ c ≤ 3 ∧ 0 ≤ n2 ∧ n2 ≤ 36524 ∧ (c < 3 → n2 ≤ 36523) := by omega
  have h3 : 0 ≤ d ∧ d ≤ 24 ∧ 0 ≤ e ∧ e ≤ 1460 ∧ n2 = 1461 * d + e := by omega
  have h4 : 0 ≤ f ∧ f ≤ 3 ∧ 0 ≤ n4 ∧ n4 ≤ 365 ∧ e = 365 * f + n4 ∧ (n4 = 365 → f = 3) := by omega
  have h5 : 0 ≤ g ∧ g ≤ 11 ∧ 153 * g ≤ 5 * n4 + 2 ∧ 5 * n4 + 2 < 153 * g + 153 := by omega
  refine ⟨by omega, by omega, by omega, by omega, by omega, by omega, by omega, by omega, by omega, by omega, by omega, by omega, ?_, by omega, by omega⟩
  intro h
  exact ⟨h4.2.2.2.2.2 h, by omega⟩
theorem partsZ_step (s a c d f n4 g : Int) (hs : 1 ≤ s) (a0 : 0 ≤ a) (c0 : 0 ≤ c) (c1 : c ≤ 3) (d0 : 0 ≤ d) (d1 : d ≤ 24) (f0 : 0 ≤ f) (f1 : f ≤ 3) (n0 : 0 ≤ n4) (n1 : n4 ≤ 365) (g0 : 0 ≤ g) (g1 : g ≤ 11)
    (hN : s + 693901 - 1 = 146097 * a + 36524 * c + 1461 * d + 365 * f + n4) (hl : n4 = 365 → f = 3 ∧ (d = 24 → c = 3)) (hg1 : 153 * g ≤ 5 * n4 + 2) (hg2 : 5 * n4 + 2 < 153 * g + 153) (y m dd : Int)
    (h : (y, m, dd) = if g + 3 > 12 then (400 * a + 100 * c + 4 * d + f + 1, g + 3 - 12, n4 - (153 * g + 2) / 5 + 1) else (400 * a + 100 * c + 4 * d + f, g + 3, n4 - (153 * g + 2) / 5 + 1)) :
    ValidD y m dd ∧ numZ y m dd = s := by
  have hgc : g = 0 ∨ g = 1 ∨ g = 2 ∨ g = 3 ∨ g = 4 ∨ g = 5 ∨ g = 6 ∨ g = 7 ∨ g = 8 ∨ g = 9 ∨ g = 10 ∨ g = 11 := by omega
  have hY : 1 ≤ 400 * a + 100 * c + 4 * d + f := by omega
  have hr := lpZ_range y
  have hcnt : 1 ≤ y → 1 ≤ m → m ≤ 12 → numZ y m dd = countZ y m dd := fun h1 h2 h3 => (countZ_num y m dd h1 h2 h3).symm
  have hlp : g = 11 → n4 = 365 → lpZ y = 1 := by
    intro hg hn
    subst hg
    rw [if_pos (by omega)] at h
    simp only [Prod.mk.injEq] at h
    obtain ⟨hy, -, -⟩ := h
    obtain ⟨l1, l2⟩ := hl hn
    rcases lpZ_cases y (by omega) with ⟨e, -⟩ | ⟨-, e⟩
    · exact e
    · exfalso
      apply e
      by_cases hd : d = 24
      · have := l2 hd; omega
      · omega
  have hlong := longZ_eq y m
  rcases hgc with rfl | rfl | rfl | rfl | rfl | rfl | rfl | rfl | rfl | rfl | rfl | rfl
  all_goals
    simp at h
    obtain ⟨hy, hm, hdd⟩ := h
    subst hm
    simp at hlong
    have h2 := hcnt (by omega) (by omega) (by omega)
    simp [countZ] at h2
    refine ⟨⟨by omega, by omega, by omega, by omega, by omega⟩, by omega⟩
theorem partsZ_valid (s : Int) (h : 1 ≤ s) : ValidD (partsZ s).1 (partsZ s).2.1 (partsZ s).2.2 ∧ numZ (partsZ s).1 (partsZ s).2.1 (partsZ s).2.2 = s := by
  obtain ⟨x1, x2, x3, x4, x5, x6, x7, x8, x9, x10, x11, x12, x13, x14, x15⟩ := partsZ_core (s + 693901 - 1) _ _ _ _ _ _ _ _ _ (by omega) rfl rfl rfl rfl rfl rfl rfl rfl rfl
  exact partsZ_step s _ _ _ _ _ _ h x1 x2 x3 x4 x5 x6 x7 x8 x9 x10 x11 x12 x13 x14 x15 _ _ _ rfl
theorem partsZ_of (y m d : Int) (h : ValidD y m d) (h1 : 1 ≤ numZ y m d) : partsZ (numZ y m d) = (y, m, d) := by
  obtain ⟨a, b⟩ := partsZ_valid (numZ y m d) h1
  obtain ⟨e1, e2, e3⟩ := numZ_inj a h b
  exact Prod.ext e1 (Prod.ext e2 e3)
end Go.Proofs.YtiloagepldeeeaaDoor.Pr
