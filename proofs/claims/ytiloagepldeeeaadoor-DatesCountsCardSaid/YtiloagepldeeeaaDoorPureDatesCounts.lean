/-
  The law DatesCounts, over whole numbers alone, and the walk that follows.
-/
import Derived.Test.YtiloagepldeeeaaDoorPr13
import Derived.Test.YtiloagepldeeeaaDoorPDatesLives
namespace Go.Proofs.YtiloagepldeeeaaDoor.Pr
set_option linter.unusedVariables false
set_option linter.unusedSimpArgs false
open Go.RowKit Go.Proofs.YtiloagepldeeeaaDoorW.PrintWords Go.Proofs.YtiloagepldeeeaaDoorW.PrintMore
theorem serialZ_more (y m d : Int) (h : (serialZ y m d).2 = 0) (h' : (serialZ y m (d + 1)).2 = 0) : (serialZ y m (d + 1)).1 = (serialZ y m d).1 + 1 := by
  have hn : ∀ a b, numZ a b (d + 1) = numZ a b d + 1 := fun a b => by unfold numZ; omega
  unfold serialZ at h h' ⊢
  rw [hn] at h' ⊢
  by_cases c1 : y < 1900 ∨ 9999 < y ∨ (m < -100000 ∨ 100000 < m) ∨ (d < -100000 ∨ 100000 < d)
  · rw [if_pos c1] at h; exact absurd h (by decide)
  · rw [if_neg c1] at h ⊢
    by_cases c2 : y < 1900 ∨ 9999 < y ∨ (m < -100000 ∨ 100000 < m) ∨ (d + 1 < -100000 ∨ 100000 < d + 1)
    · rw [if_pos c2] at h'; exact absurd h' (by decide)
    · rw [if_neg c2] at h' ⊢
      by_cases c3 : 12 * y + m - 1 < 18000
      · rw [if_pos c3] at h; exact absurd h (by decide)
      · rw [if_neg c3] at h h' ⊢
        rw [if_neg c3]
        generalize numZ ((12 * y + m - 1) / 12) ((12 * y + m - 1) % 12 + 1) d = n at *
        by_cases c4 : 1 ≤ n ∧ n ≤ 2958464
        · rw [if_pos c4] at h ⊢
          by_cases c5 : 1 ≤ n + 1 ∧ n + 1 ≤ 2958464
          · rw [if_pos c5]
          · rw [if_neg c5] at h'; exact absurd h' (by decide)
        · rw [if_neg c4] at h; exact absurd h (by decide)
theorem serialZ_year (y m d : Int) (h0 : 1900 ≤ y) (h1 : y ≤ 9998) (h2 : -1000 ≤ m) (h3 : m ≤ 1000) : serialZ (y + 1) m d = serialZ y (m + 12) d := by
  unfold serialZ
  rw [show 12 * (y + 1) + m - 1 = 12 * y + (m + 12) - 1 by omega]
  by_cases c : d < -100000 ∨ 100000 < d
  · rw [if_pos (show y + 1 < 1900 ∨ 9999 < y + 1 ∨ (m < -100000 ∨ 100000 < m) ∨ (d < -100000 ∨ 100000 < d) by omega), if_pos (show y < 1900 ∨ 9999 < y ∨ (m + 12 < -100000 ∨ 100000 < m + 12) ∨ (d < -100000 ∨ 100000 < d) by omega)]
  · rw [if_neg (show ¬ (y + 1 < 1900 ∨ 9999 < y + 1 ∨ (m < -100000 ∨ 100000 < m) ∨ (d < -100000 ∨ 100000 < d)) by omega), if_neg (show ¬ (y < 1900 ∨ 9999 < y ∨ (m + 12 < -100000 ∨ 100000 < m + 12) ∨ (d < -100000 ∨ 100000 < d)) by omega)]
theorem DatesCounts_j1 (y m d : Int) (h0 : 1900 ≤ y) (h1 : y ≤ 9999) (h2 : -1000 ≤ m) (h3 : m ≤ 1000) : foolscaplaw11_DatesCounts.j1 10 y m d false = some true := by
  simp only [foolscaplaw11_DatesCounts.j1]
  rw [if_neg (by decide), dates_lives 9 (by decide)]
  by_cases c : y = 9999
  · rw [if_pos c]; rfl
  · rw [if_neg c, w64 (a := y + 1) (by omega) (by omega), w64 (a := m + 12) (by omega) (by omega), dates_Serial_eq 9 (by decide), dates_Serial_eq 9 (by decide), serialZ_year y m d h0 (by omega) h2 h3]
    simp
theorem DatesCounts_j0 (y m d : Int) (h0 : 1900 ≤ y) (h1 : y ≤ 9999) (h2 : -1000 ≤ m) (h3 : m ≤ 1000) (h4 : -1000 ≤ d) (h5 : d ≤ 1000) : foolscaplaw11_DatesCounts.j0 11 y m d false = some true := by
  have hj := DatesCounts_j1 y m d h0 h1 h2 h3
  have hm := serialZ_more y m d
  have hr : (serialZ y m d).2 = 0 → 1 ≤ (serialZ y m d).1 ∧ (serialZ y m d).1 ≤ 2958464 := by
    unfold serialZ
    split
    · intro h; exact absurd h (by decide)
    · split
      · intro h; exact absurd h (by decide)
      · split
        · rename_i hc; intro _; exact hc
        · intro h; exact absurd h (by decide)
  simp only [foolscaplaw11_DatesCounts.j0]
  rw [if_neg (by decide), w64 (a := d + 1) (by omega) (by omega), dates_Serial_eq 10 (by decide), dates_Serial_eq 10 (by decide)]
  simp only [Option.bind_some]
  by_cases c1 : (serialZ y m d).2 = 0
  · rw [if_pos c1]
    by_cases c2 : (serialZ y m (d + 1)).2 = 0
    · have := hr c1
      rw [if_pos c2, w64 (by omega) (by omega), hm c1 c2, bne_self_eq_false, hj]
    · rw [if_neg c2, hj]
  · rw [if_neg c1, hj]
theorem DatesCounts_pure (a0 a1 a2 : Int) : foolscaplaw11_DatesCounts.f 11 a0 a1 a2 = some true := by
  have out : foolscaplaw11_DatesCounts.j0 11 a0 a1 a2 true = some true := by simp only [foolscaplaw11_DatesCounts.j0]; rw [dates_lives 10 (by decide)]; simp
  unfold foolscaplaw11_DatesCounts.f
  by_cases c1 : a0 < 1900
  · rw [if_pos c1, out]
  · rw [if_neg c1]
    by_cases c2 : a0 > 9999
    · rw [if_pos c2, out]
    · rw [if_neg c2]
      by_cases c3 : a1 < -1000
      · rw [if_pos c3, out]
      · rw [if_neg c3]
        by_cases c4 : a1 > 1000
        · rw [if_pos c4, out]
        · rw [if_neg c4]
          by_cases c5 : a2 < -1000
          · rw [if_pos c5, out]
          · rw [if_neg c5]
            by_cases c6 : a2 > 1000
            · rw [decide_eq_true c6, out]
            · rw [decide_eq_false c6]
              exact DatesCounts_j0 a0 a1 a2 (by omega) (by omega) (by omega) (by omega) (by omega) (by omega)
theorem DatesCounts_walk (a0 a1 a2 : Int) (w : World) (w0 : (Lit.int .i64 a0).wf = true) (w1 : (Lit.int .i64 a1).wf = true) (w2 : (Lit.int .i64 a2).wf = true) (hL : Aside0 (LaidW w)) :
    Calls Tryd.prog 7 #[.int .i64 a0, .int .i64 a1, .int .i64 a2] w fun e w' => e = .returned (.bool true) ∧ Below w.heap.size w w' :=
  foolscaplaw11_DatesCounts.calls 11 a0 a1 a2 true w (DatesCounts_pure a0 a1 a2) hL
end Go.Proofs.YtiloagepldeeeaaDoor.Pr
