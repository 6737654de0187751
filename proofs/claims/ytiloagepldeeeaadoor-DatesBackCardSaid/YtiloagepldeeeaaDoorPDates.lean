/-
  Plain facts on the functions over days: what each comes to, over whole numbers alone.
-/
import Derived.Test.YtiloagepldeeeaaDoorPr2
import Derived.Test.YtiloagepldeeeaaDoorPr3
import Derived.Test.YtiloagepldeeeaaDoorXDates
import Derived.Test.YtiloagepldeeeaaDoorPDateMath
import Derived.WalkKit
import Derived.OpenShut
namespace Go.Proofs.YtiloagepldeeeaaDoor.Pr
set_option linter.unusedVariables false
set_option linter.unusedSimpArgs false
open Go.RowKit Go.Proofs.YtiloagepldeeeaaDoorW.PrintWords Go.Proofs.YtiloagepldeeeaaDoorW.PrintMore
theorem i64_of_wf {a : Int} (h : (Lit.int .i64 a).wf = true) : -9223372036854775808 ≤ a ∧ a ≤ 9223372036854775807 := bounds_i64 h
theorem w64 {a : Int} (h0 : -9223372036854775808 ≤ a) (h1 : a ≤ 9223372036854775807) : wrap64 a = a := by unfold wrap64; omega
theorem dates_is_eq (s : Int) : dates_is.f s = some (decide (1 ≤ s ∧ s ≤ 2958464)) := by
  unfold dates_is.f
  by_cases h : s ≥ 1
  · rw [if_pos h]; congr 1; rw [decide_eq_decide]; omega
  · rw [if_neg h]; congr 1; exact (decide_eq_false (by omega)).symm
theorem dates_far_eq (a b : Int) (h0 : 0 ≤ b) (h1 : b ≤ 1000000) : dates_far.f a b = some (decide (a < -b ∨ b < a)) := by
  unfold dates_far.f
  rw [w64 (by omega) (by omega)]
  by_cases h : a < -b
  · rw [if_pos h]; congr 1; exact (decide_eq_true (.inl h)).symm
  · rw [if_neg h]; congr 1; rw [decide_eq_decide]; omega
theorem ref11_far_eq (a b : Int) : foolscapref11_far.f a b = dates_far.f a b := rfl
theorem dates_count_eq (y m d : Int) (h0 : 1 ≤ y) (h1 : y ≤ 100000) (h2 : 1 ≤ m) (h3 : m ≤ 12) (h4 : -1000000 ≤ d) (h5 : d ≤ 1000000) : dates_count.f y m d = some (numZ y m d) := by
  rw [← countZ_num y m d h0 h2 h3]
  unfold dates_count.f countZ
  rw [w64 (a := m - 3) (by omega) (by omega)]
  split
  · simp (disch := omega) only [w64, Int.tdiv_eq_ediv_of_nonneg, Int.tmod_eq_emod_of_nonneg]
  · simp (disch := omega) only [w64, Int.tdiv_eq_ediv_of_nonneg, Int.tmod_eq_emod_of_nonneg]
theorem any_low {o : Option Int} (h : o.any (fun c => decide (c ≤ -600000) && decide (-1000000 ≤ c)) = true) : ∃ c, o = some c ∧ c ≤ -600000 ∧ -1000000 ≤ c := by
  cases o with
  | none => exact absurd h (by decide)
  | some c => simp at h; exact ⟨c, rfl, h.1, h.2⟩
theorem dates_count_zero (m : Int) (h2 : 1 ≤ m) (h3 : m ≤ 12) : ∃ c, dates_count.f 0 m 1 = some c ∧ c ≤ -600000 ∧ -1000000 ≤ c := by
  have hc : m = 1 ∨ m = 2 ∨ m = 3 ∨ m = 4 ∨ m = 5 ∨ m = 6 ∨ m = 7 ∨ m = 8 ∨ m = 9 ∨ m = 10 ∨ m = 11 ∨ m = 12 := by omega
  rcases hc with rfl | rfl | rfl | rfl | rfl | rfl | rfl | rfl | rfl | rfl | rfl | rfl
  all_goals exact any_low (by decide +kernel)
theorem dates_parts_eq (s : Int) (h0 : 1 ≤ s) (h1 : s ≤ 4000000) : dates_parts.f s = some (partsZ s) := by
  unfold dates_parts.f
  rw [if_pos ⟨by omega, h1⟩]
theorem dates_long_eq (y m : Int) (h0 : 1 ≤ m) (h1 : m ≤ 12) : dates_long.f y m = some (longZ y m) := by
  unfold dates_long.f
  rw [if_pos ⟨h0, h1⟩]
theorem ref11_Leap_eq (y : Int) : foolscapref11_Leap.f y = some (leapB y) := by
  unfold foolscapref11_Leap.f leapB
  by_cases c1 : Int.tmod y 4 = 0
  · rw [if_pos c1]
    by_cases c2 : Int.tmod y 100 = 0
    · rw [if_pos c2]
      by_cases c3 : Int.tmod y 400 = 0 <;> simp [c1, c2, c3]
    · rw [if_neg c2]; simp [c1, c2]
  · rw [if_neg c1]
    have c3 : ¬ Int.tmod y 400 = 0 := by
      intro h
      apply c1
      obtain ⟨z, hz⟩ := Int.dvd_of_tmod_eq_zero h
      exact Int.tmod_eq_zero_of_dvd ⟨100 * z, by omega⟩
    simp [c1, c3]
theorem ref11_Long_eq (y m : Int) : foolscapref11_Long.f y m = some (longZ y m) := by
  unfold foolscapref11_Long.f longZ
  rw [ref11_Leap_eq]
  by_cases c : m = 2
  · rw [if_pos c, if_pos c]; simp only [Option.bind_some]; split <;> rfl
  · rw [if_neg c, if_neg c]
    by_cases c1 : m = 4
    · rw [if_pos c1, if_pos (.inl c1)]
    · rw [if_neg c1]
      by_cases c2 : m = 6
      · rw [if_pos c2, if_pos (.inr (.inl c2))]
      · rw [if_neg c2]
        by_cases c3 : m = 9
        · rw [if_pos c3, if_pos (.inr (.inr (.inl c3)))]
        · rw [if_neg c3]
          by_cases c4 : m = 11
          · rw [if_pos c4, if_pos (.inr (.inr (.inr c4)))]
          · rw [if_neg c4, if_neg (by omega)]
/-! ### the reference's first day of a month: loop by loop -/
theorem ref11_l2 (y x n : Int) (hx : x ≤ 12) (hn : -9000000 ≤ n) (hn2 : n ≤ 9000000) (j : Nat) : ∀ (k : Nat) (m : Int), j < k → (j : Int) = x - m → 1 ≤ m → foolscapref11_first.l2 k y x (n + cumZ y m) m = some (n + cumZ y x) := by
  have hr : ∀ m, 1 ≤ m → m ≤ 13 → 0 ≤ cumZ y m ∧ cumZ y m ≤ 400 := by
    intro m h1 h2
    have := lpZ_range y
    unfold cumZ
    split <;> omega
  induction j with
  | zero =>
    intro k m hk hm h1
    obtain ⟨k, rfl⟩ : ∃ q, k = q + 1 := ⟨k - 1, by omega⟩
    obtain rfl : m = x := by omega
    simp only [foolscapref11_first.l2]
    rw [if_neg (by omega)]
  | succ j ih =>
    intro k m hk hm h1
    obtain ⟨k, rfl⟩ : ∃ q, k = q + 1 := ⟨k - 1, by omega⟩
    have h2 := hr m h1 (by omega)
    have h3 := hr (m + 1) (by omega) (by omega)
    have h4 := cumZ_succ y m h1 (by omega)
    simp only [foolscapref11_first.l2]
    rw [if_pos (by omega), ref11_Long_eq, Option.bind_some, w64 (a := m + 1) (by omega) (by omega), w64 (by omega) (by omega), show n + cumZ y m + longZ y m = n + cumZ y (m + 1) by omega]
    exact ih k (m + 1) (by omega) (by omega) (by omega)
theorem dayZ_range (y : Int) (h : 0 ≤ y) (h2 : y ≤ 20000) : 0 ≤ dayZ y ∧ dayZ y ≤ 8000000 := by unfold dayZ; omega
theorem dayZ_1900 : dayZ 1900 = 693961 := by decide
theorem ref11_l1 (y x : Int) (hy : 1000 ≤ y) (hx : 1 ≤ x) (hx2 : x ≤ 12) (j : Nat) : ∀ (k : Nat) (z : Int), j + 14 < k → (j : Int) = 1900 - z → 1000 ≤ z → foolscapref11_first.l1 k y x (1 + dayZ y - dayZ z) z = some (1 + dayZ y - dayZ 1900 + cumZ y x) ∨ 20000 < y := by
  intro k z
  by_cases hbig : 20000 < y
  · intro _ _ _; exact .inr hbig
  · induction j generalizing k z with
    | zero =>
      intro hk hz h1
      obtain ⟨k, rfl⟩ : ∃ q, k = q + 1 := ⟨k - 1, by omega⟩
      obtain rfl : z = 1900 := by omega
      have hd := dayZ_range y (by omega) (by omega)
      have h9 := dayZ_1900
      simp only [foolscapref11_first.l1]
      rw [if_neg (by omega)]
      have h := ref11_l2 y x (1 + dayZ y - dayZ 1900) hx2 (by omega) (by omega) (x - 1).toNat k 1 (by omega) (by omega) (by omega)
      rw [cumZ_first, Int.add_zero] at h
      exact .inl h
    | succ j ih =>
      intro hk hz h1
      obtain ⟨k, rfl⟩ : ∃ q, k = q + 1 := ⟨k - 1, by omega⟩
      have hd := dayZ_range y (by omega) (by omega)
      have hd2 := dayZ_range z (by omega) (by omega)
      have hs := dayZ_succ z (by omega)
      have hl := lpZ_range z
      simp only [foolscapref11_first.l1]
      rw [if_pos (by omega), ref11_Leap_eq, Option.bind_some]
      have hi := ih k (z + 1) (by omega) (by omega) (by omega)
      have hlp : lpZ z = if leapB z = true then 1 else 0 := rfl
      cases hb : leapB z with
      | true =>
        rw [hb] at hlp
        simp only [if_true] at hlp
        rw [if_pos rfl, w64 (a := z + 1) (by omega) (by omega), w64 (a := 1 + dayZ y - dayZ z - 365) (by omega) (by omega), w64 (by omega) (by omega), show 1 + dayZ y - dayZ z - 365 - 1 = 1 + dayZ y - dayZ (z + 1) by omega]
        exact hi
      | false =>
        rw [hb] at hlp
        simp only [Bool.false_eq_true, if_false] at hlp
        rw [if_neg (by decide), w64 (a := z + 1) (by omega) (by omega), w64 (by omega) (by omega), show 1 + dayZ y - dayZ z - 365 = 1 + dayZ y - dayZ (z + 1) by omega]
        exact hi
theorem ref11_l0 (y x : Int) (hy : 1900 ≤ y) (hy2 : y ≤ 20000) (hx : 1 ≤ x) (hx2 : x ≤ 12) (j : Nat) : ∀ (k : Nat) (z : Int), j + 15 < k → (j : Int) = y - z → 1900 ≤ z → foolscapref11_first.l0 k y x (1 + dayZ z - dayZ 1900) z = some (1 + dayZ y - dayZ 1900 + cumZ y x) := by
  induction j with
  | zero =>
    intro k z hk hz h1
    obtain ⟨k, rfl⟩ : ∃ q, k = q + 1 := ⟨k - 1, by omega⟩
    obtain rfl : z = y := by omega
    simp only [foolscapref11_first.l0]
    rw [if_neg (by omega)]
    obtain ⟨k, rfl⟩ : ∃ q, k = q + 1 := ⟨k - 1, by omega⟩
    have hd := dayZ_range z (by omega) (by omega)
    have h9 := dayZ_1900
    simp only [foolscapref11_first.l1]
    rw [if_neg (by omega)]
    have h := ref11_l2 z x (1 + dayZ z - dayZ 1900) hx2 (by omega) (by omega) (x - 1).toNat k 1 (by omega) (by omega) (by omega)
    rw [cumZ_first, Int.add_zero] at h
    exact h
  | succ j ih =>
    intro k z hk hz h1
    obtain ⟨k, rfl⟩ : ∃ q, k = q + 1 := ⟨k - 1, by omega⟩
    have hd2 := dayZ_range z (by omega) (by omega)
    have h9 := dayZ_1900
    have hs := dayZ_succ z (by omega)
    have hl := lpZ_range z
    simp only [foolscapref11_first.l0]
    rw [if_pos (by omega), ref11_Leap_eq, Option.bind_some]
    have hi := ih k (z + 1) (by omega) (by omega) (by omega)
    have hlp : lpZ z = if leapB z = true then 1 else 0 := rfl
    cases hb : leapB z with
    | true =>
      rw [hb] at hlp
      simp only [if_true] at hlp
      rw [if_pos rfl, w64 (a := z + 1) (by omega) (by omega), w64 (a := 1 + dayZ z - dayZ 1900 + 365) (by omega) (by omega), w64 (by omega) (by omega), show 1 + dayZ z - dayZ 1900 + 365 + 1 = 1 + dayZ (z + 1) - dayZ 1900 by omega]
      exact hi
    | false =>
      rw [hb] at hlp
      simp only [Bool.false_eq_true, if_false] at hlp
      rw [if_neg (by decide), w64 (a := z + 1) (by omega) (by omega), w64 (by omega) (by omega), show 1 + dayZ z - dayZ 1900 + 365 = 1 + dayZ (z + 1) - dayZ 1900 by omega]
      exact hi
theorem ref11_first_eq (k : Nat) (hk : 20000 ≤ k) (y m : Int) (hy : 1500 ≤ y) (hy2 : y ≤ 10400) (h0 : 1 ≤ m) (h1 : m ≤ 12) : foolscapref11_first.f k y m = some (numZ y m 1) := by
  have h9 := dayZ_1900
  unfold foolscapref11_first.f
  have hv : 1 + dayZ y - dayZ 1900 + cumZ y m = numZ y m 1 := by unfold numZ; omega
  rw [← hv]
  by_cases c : 1900 ≤ y
  · have h := ref11_l0 y m c (by omega) h0 h1 (y - 1900).toNat k 1900 (by omega) (by omega) (by omega)
    rw [show 1 + dayZ 1900 - dayZ 1900 = 1 by omega] at h
    exact h
  · obtain ⟨k, rfl⟩ : ∃ q, k = q + 1 := ⟨k - 1, by omega⟩
    simp only [foolscapref11_first.l0]
    rw [if_neg (by omega)]
    have h := ref11_l1 y m (by omega) h0 h1 (1900 - y).toNat k y (by omega) (by omega) (by omega)
    rw [show 1 + dayZ y - dayZ y = 1 by omega] at h
    exact h.elim id (fun hb => absurd hb (by omega))
/-! ### Serial -/
def serialZ (y m d : Int) : Int × Int :=
  if y < 1900 ∨ 9999 < y ∨ (m < -100000 ∨ 100000 < m) ∨ (d < -100000 ∨ 100000 < d) then (0, 2)
  else if 12 * y + m - 1 < 18000 then (0, 3)
  else if 1 ≤ numZ ((12 * y + m - 1) / 12) ((12 * y + m - 1) % 12 + 1) d ∧ numZ ((12 * y + m - 1) / 12) ((12 * y + m - 1) % 12 + 1) d ≤ 2958464 then (numZ ((12 * y + m - 1) / 12) ((12 * y + m - 1) % 12 + 1) d, 0) else (0, 3)
theorem numZ_day (y m d : Int) : numZ y m d = numZ y m 1 + d - 1 := by unfold numZ; omega
theorem numZ_range (y m : Int) (h0 : 0 ≤ y) (h1 : y ≤ 20000) (h2 : 1 ≤ m) (h3 : m ≤ 12) : -1000000 ≤ numZ y m 1 ∧ numZ y m 1 ≤ 8000000 ∧ (y < 1500 → numZ y m 1 ≤ -145000) ∧ (10400 < y → 3100000 ≤ numZ y m 1) := by
  have := lpZ_range y
  have hc : 0 ≤ cumZ y m ∧ cumZ y m ≤ 400 := by
    unfold cumZ
    split <;> omega
  unfold numZ dayZ
  omega
theorem dates_Serial_j0 (k : Nat) (y m d : Int) (h0 : 1900 ≤ y) (h1 : y ≤ 9999) (h2 : -100000 ≤ m) (h3 : m ≤ 100000) (h4 : -100000 ≤ d) (h5 : d ≤ 100000) : dates_Serial.j0 (k + 1) y m d false = some (serialZ y m d) := by
  unfold serialZ
  rw [if_neg (by omega)]
  simp only [dates_Serial.j0]
  rw [if_neg (by decide), w64 (a := 12 * y) (by omega) (by omega), w64 (a := 12 * y + m) (by omega) (by omega), w64 (a := 12 * y + m - 1) (by omega) (by omega)]
  have hKl : -200000 ≤ 12 * y + m - 1 ∧ 12 * y + m - 1 ≤ 230000 := by omega
  generalize 12 * y + m - 1 = K at *
  by_cases c : K < 0
  · rw [if_pos c, if_pos (by omega)]
  · by_cases hK : K ≤ 230000
    · rw [if_neg c, Int.tdiv_eq_ediv_of_nonneg (by omega), Int.tmod_eq_emod_of_nonneg (by omega), w64 (a := K / 12) (by omega) (by omega), w64 (a := K % 12 + 1) (by omega) (by omega)]
      have hr := numZ_range (K / 12) (K % 12 + 1) (by omega) (by omega) (by omega) (by omega)
      by_cases c0 : K / 12 = 0
      · obtain ⟨t, ht, t0, t1⟩ := dates_count_zero (K % 12 + 1) (by omega) (by omega)
        rw [c0, ht, Option.bind_some, w64 (a := t + d) (by omega) (by omega), w64 (a := t + d - 1) (by omega) (by omega), dates_is_eq, Option.bind_some, decide_eq_false (by omega), if_neg (by decide), if_pos (by omega)]
      · rw [dates_count_eq _ _ _ (by omega) (by omega) (by omega) (by omega) (by omega) (by omega), Option.bind_some, w64 (a := numZ (K / 12) (K % 12 + 1) 1 + d) (by omega) (by omega), w64 (a := numZ (K / 12) (K % 12 + 1) 1 + d - 1) (by omega) (by omega), ← numZ_day, dates_is_eq, Option.bind_some]
        by_cases c1 : K < 18000
        · have := numZ_day (K / 12) (K % 12 + 1) d
          rw [if_pos c1, decide_eq_false (by omega), if_neg (by decide)]
        · rw [if_neg c1]
          by_cases c2 : 1 ≤ numZ (K / 12) (K % 12 + 1) d ∧ numZ (K / 12) (K % 12 + 1) d ≤ 2958464
          · rw [decide_eq_true c2, if_pos rfl, if_pos c2]
          · rw [decide_eq_false c2, if_neg (by decide), if_neg c2]
    · exfalso; omega
theorem dates_Serial_eq (k : Nat) (hk : 1 ≤ k) (y m d : Int) : dates_Serial.f k y m d = some (serialZ y m d) := by
  obtain ⟨k, rfl⟩ : ∃ q, k = q + 1 := ⟨k - 1, by omega⟩
  have bad : dates_Serial.j0 (k + 1) y m d true = some (0, 2) := by simp only [dates_Serial.j0]; rw [if_pos trivial]
  unfold dates_Serial.f
  by_cases c1 : y < 1900
  · rw [if_pos c1, bad]; unfold serialZ; rw [if_pos (.inl c1)]
  · rw [if_neg c1]
    by_cases c2 : y > 9999
    · rw [if_pos c2, bad]; unfold serialZ; rw [if_pos (.inr (.inl c2))]
    · rw [if_neg c2, dates_far_eq m 100000 (by omega) (by omega), dates_far_eq d 100000 (by omega) (by omega), Option.bind_some]
      by_cases c3 : m < -100000 ∨ 100000 < m
      · rw [decide_eq_true c3, if_pos rfl, bad]; unfold serialZ; rw [if_pos (.inr (.inr (.inl c3)))]
      · rw [decide_eq_false c3, if_neg (by decide), Option.bind_some]
        by_cases c4 : d < -100000 ∨ 100000 < d
        · rw [decide_eq_true c4, bad]; unfold serialZ; rw [if_pos (.inr (.inr (.inr c4)))]
        · rw [decide_eq_false c4]
          exact dates_Serial_j0 k y m d (by omega) (by omega) (by omega) (by omega) (by omega) (by omega)
theorem ref11_Serial_j0 (k : Nat) (hk : 20010 ≤ k) (y m d : Int) (h0 : 1900 ≤ y) (h1 : y ≤ 9999) (h2 : -100000 ≤ m) (h3 : m ≤ 100000) (h4 : -100000 ≤ d) (h5 : d ≤ 100000) : foolscapref11_Serial.j0 k y m d false = some (serialZ y m d) := by
  obtain ⟨k, rfl⟩ : ∃ q, k = q + 2 := ⟨k - 2, by omega⟩
  unfold serialZ
  rw [if_neg (by omega)]
  simp only [foolscapref11_Serial.j0]
  rw [if_neg (by decide), w64 (a := 12 * y) (by omega) (by omega), w64 (a := 12 * y + m) (by omega) (by omega), w64 (a := 12 * y + m - 1) (by omega) (by omega)]
  have hKl : -200000 ≤ 12 * y + m - 1 ∧ 12 * y + m - 1 ≤ 230000 := by omega
  generalize 12 * y + m - 1 = K at *
  have over : ∀ a b, foolscapref11_Serial.j1 (k + 1) d a b true = some (0, 3) := fun a b => by simp only [foolscapref11_Serial.j1]; rw [if_pos trivial]
  by_cases c : K < 0
  · have : Int.tdiv K 12 ≤ 0 := by
      have := Int.neg_tdiv (-K) 12
      have h12 : 0 ≤ Int.tdiv (-K) 12 := Int.tdiv_nonneg (by omega) (by omega)
      rw [Int.neg_neg] at this
      omega
    have hlow : -200000 ≤ Int.tdiv K 12 := by
      have := Int.neg_tdiv (-K) 12
      rw [Int.neg_neg, Int.tdiv_eq_ediv_of_nonneg (show 0 ≤ -K by omega)] at this
      omega
    rw [w64 (a := Int.tdiv K 12) (by omega) (by omega), if_pos (by omega), over, if_pos (by omega)]
  · rw [Int.tdiv_eq_ediv_of_nonneg (by omega), Int.tmod_eq_emod_of_nonneg (by omega), w64 (a := K / 12) (by omega) (by omega), w64 (a := K % 12 + 1) (by omega) (by omega)]
    have hr := numZ_range (K / 12) (K % 12 + 1) (by omega) (by omega) (by omega) (by omega)
    have hd := numZ_day (K / 12) (K % 12 + 1) d
    by_cases c1 : K / 12 < 1500
    · rw [if_pos c1, over, if_pos (by omega)]
    · rw [if_neg c1, if_neg (show ¬ K < 18000 by omega)]
      by_cases c2 : K / 12 > 10400
      · rw [decide_eq_true c2, over, if_neg (by omega)]
      · rw [decide_eq_false c2]
        simp only [foolscapref11_Serial.j1]
        rw [if_neg (by decide), ref11_first_eq k (by omega) _ _ (by omega) (by omega) (by omega) (by omega), Option.bind_some, w64 (a := numZ (K / 12) (K % 12 + 1) 1 + d) (by omega) (by omega), w64 (a := numZ (K / 12) (K % 12 + 1) 1 + d - 1) (by omega) (by omega), ← hd]
        by_cases c3 : numZ (K / 12) (K % 12 + 1) d < 1
        · rw [if_pos c3, if_neg (by omega)]
        · rw [if_neg c3]
          by_cases c4 : numZ (K / 12) (K % 12 + 1) d > 2958464
          · rw [if_pos c4, if_neg (by omega)]
          · rw [if_neg c4, if_pos (by omega)]
theorem ref11_Serial_eq (k : Nat) (hk : 20010 ≤ k) (y m d : Int) : foolscapref11_Serial.f k y m d = some (serialZ y m d) := by
  have bad : foolscapref11_Serial.j0 k y m d true = some (0, 2) := by
    obtain ⟨k, rfl⟩ : ∃ q, k = q + 1 := ⟨k - 1, by omega⟩
    simp only [foolscapref11_Serial.j0]; rw [if_pos trivial]
  unfold foolscapref11_Serial.f
  by_cases c1 : y < 1900
  · rw [if_pos c1, bad]; unfold serialZ; rw [if_pos (.inl c1)]
  · rw [if_neg c1]
    by_cases c2 : y > 9999
    · rw [if_pos c2, bad]; unfold serialZ; rw [if_pos (.inr (.inl c2))]
    · rw [if_neg c2, ref11_far_eq, ref11_far_eq, dates_far_eq m 100000 (by omega) (by omega), dates_far_eq d 100000 (by omega) (by omega), Option.bind_some]
      by_cases c3 : m < -100000 ∨ 100000 < m
      · rw [decide_eq_true c3, if_pos rfl, bad]; unfold serialZ; rw [if_pos (.inr (.inr (.inl c3)))]
      · rw [decide_eq_false c3, if_neg (by decide), Option.bind_some]
        by_cases c4 : d < -100000 ∨ 100000 < d
        · rw [decide_eq_true c4, bad]; unfold serialZ; rw [if_pos (.inr (.inr (.inr c4)))]
        · rw [decide_eq_false c4]
          exact ref11_Serial_j0 k hk y m d (by omega) (by omega) (by omega) (by omega) (by omega) (by omega)
end Go.Proofs.YtiloagepldeeeaaDoor.Pr
