/-
  The law NumDivides, over whole numbers alone, and the walk that follows.
-/
import Derived.Test.YtdhieabmpkfdhaaDoorPr5
import Derived.Test.YtdhieabmpkfdhaaDoorPureNumHalves
namespace Go.Proofs.YtdhieabmpkfdhaaDoor.Pr
set_option linter.unusedVariables false
open Go.RowKit Go.Proofs.YtdhieabmpkfdhaaDoorW.PrintWords Go.Proofs.YtdhieabmpkfdhaaDoorW.PrintMore
/-- what is left: of the divisor's sign, and nearer to 0. -/
theorem num_left (a b : Int) (ha0 : -1000000000000000000 ≤ a) (ha1 : a ≤ 1000000000000000000) (hb0 : -1000000000000000000 ≤ b) (hb1 : b ≤ 1000000000000000000) (hb : b ≠ 0) :
    ∃ r, Int.tmod (wrap64 (Int.tmod a b + b)) b = r ∧ (0 < b → 0 ≤ r ∧ r < b) ∧ (b < 0 → b < r ∧ r ≤ 0) := by
  refine ⟨_, rfl, ?_, ?_⟩
  · intro h
    have r0 := Int.lt_tmod_of_pos a h
    have r1 := Int.tmod_lt_of_pos a h
    rw [w64 (by omega) (by omega), Int.tmod_eq_emod_of_nonneg (by omega)]
    exact ⟨Int.emod_nonneg _ hb, Int.emod_lt_of_pos _ h⟩
  · intro h
    have r0 := Int.lt_tmod_of_pos a (show 0 < -b by omega)
    have r1 := Int.tmod_lt_of_pos a (show 0 < -b by omega)
    rw [Int.tmod_neg] at r0 r1
    rw [w64 (by omega) (by omega)]
    have e : Int.tmod (Int.tmod a b + b) b = -Int.tmod (-(Int.tmod a b + b)) (-b) := by rw [Int.tmod_neg, Int.neg_tmod]; omega
    rw [e, Int.tmod_eq_emod_of_nonneg (by omega)]
    have := Int.emod_nonneg (-(Int.tmod a b + b)) (show -b ≠ 0 by omega)
    have := Int.emod_lt_of_pos (-(Int.tmod a b + b)) (show 0 < -b by omega)
    omega
theorem NumDivides_j1 (a b q : Int) (l : Bool) (h : l = true ∨ (-9223372036854775808 ≤ a * 1000000 ∧ a * 1000000 ≤ 9223372036854775807 ∧ -9223372036854775808 ≤ q * b ∧ q * b ≤ 9223372036854775807 ∧ -4000000000000000000 ≤ a * 1000000 - q * b ∧ a * 1000000 - q * b ≤ 4000000000000000000 ∧ -9000000000000000000 ≤ b ∧ b ≤ 9000000000000000000 ∧ 2 * ((a * 1000000 - q * b).natAbs : Int) ≤ b.natAbs)) :
    foolscaplaw01_NumDivides.j1 2 a b q l = some true := by
  simp only [foolscaplaw01_NumDivides.j1]
  rw [num_lives 1 (Nat.le_refl _)]
  simp only [Option.bind_some]
  cases l with
  | true => rw [if_pos rfl]
  | false =>
    rcases h with h | ⟨h1, h2, h3, h4, h5, h6, h7, h8, h9⟩
    · exact absurd h (by decide)
    · generalize hA : a * 1000000 = A at *
      generalize hB : q * b = B at *
      have e1 := w64 (a := A - B) (by omega) (by omega)
      have e2 := num_size_eq (A - B) (by omega) (by omega)
      have e3 := num_size_eq b (by omega) (by omega)
      have e4 := w64 (a := 2 * ((A - B).natAbs : Int)) (by omega) (by omega)
      rw [if_neg (by decide), w64 h1 h2, w64 h3 h4, e1, e2, Option.bind_some, e3, Option.bind_some, e4, if_pos h9]
/-- the quotient times what was divided by. -/
theorem num_near (a b : Int) (ha : -1000000000000 ≤ a ∧ a ≤ 1000000000000) (hb : -1000000000 ≤ b ∧ b ≤ 1000000000) (hb0 : b ≠ 0) :
    2 * ((a * 1000000 - num_signed a b (num_m (a.natAbs * 1000000) b.natAbs) * b).natAbs : Int) ≤ b.natAbs := by
  obtain ⟨m0, m1, m2, m3⟩ := num_m_spec (a.natAbs * 1000000) b.natAbs (by omega) (by omega)
  clear m3
  generalize num_m (a.natAbs * 1000000) b.natAbs = m at *
  unfold num_signed num_sg
  by_cases ca : a < 0
  · rw [decide_eq_true ca]
    by_cases cb : b < 0
    · rw [decide_eq_true cb, show (!(true == true)) = false from rfl, if_neg (show ¬ (false = true) by decide)]
      have : m * (b.natAbs : Int) = -(m * b) := by rw [show (b.natAbs : Int) = -b by omega, Int.mul_neg]
      omega
    · rw [decide_eq_false cb, show (!(true == false)) = true from rfl, if_pos rfl, Int.neg_mul]
      have : m * (b.natAbs : Int) = m * b := by rw [show (b.natAbs : Int) = b by omega]
      omega
  · rw [decide_eq_false ca]
    by_cases cb : b < 0
    · rw [decide_eq_true cb, show (!(false == true)) = true from rfl, if_pos rfl, Int.neg_mul]
      have : m * (b.natAbs : Int) = -(m * b) := by rw [show (b.natAbs : Int) = -b by omega, Int.mul_neg]
      omega
    · rw [decide_eq_false cb, show (!(false == false)) = false from rfl, if_neg (show ¬ (false = true) by decide)]
      have : m * (b.natAbs : Int) = m * b := by rw [show (b.natAbs : Int) = b by omega]
      omega
theorem NumDivides_j0 (a b : Int) (ha : num_fits a = true) (hb : num_fits b = true) (hb0 : b ≠ 0) : foolscaplaw01_NumDivides.j0 3 a b false = some true := by
  obtain ⟨a0, a1⟩ := num_fits_le ha
  obtain ⟨b0, b1⟩ := num_fits_le hb
  simp only [foolscaplaw01_NumDivides.j0]
  rw [if_neg (show ¬ (false = true) by decide)]
  unfold num_Div.f
  rw [if_pos ha, if_pos hb, if_neg hb0, num_size_eq a (by omega) (by omega), num_size_eq b (by omega) (by omega)]
  split
  · rename_i hok
    obtain ⟨q0, q1⟩ := num_over_range (a.natAbs * 1000000) b.natAbs (by omega) (by omega) hok
    obtain ⟨q, hq⟩ : ∃ q, q = num_signed a b (num_over (a.natAbs * 1000000) b.natAbs).1 := ⟨_, rfl⟩
    have hqs : -1000000000000000000 ≤ q ∧ q ≤ 1000000000000000000 := by
      rw [hq]; unfold num_signed num_sg; split <;> omega
    rw [← hq]
    simp only [Option.bind_some]
    rw [if_pos trivial, num_size_eq q (by omega) (by omega)]
    simp only [Option.bind_some]
    split
    · exact NumDivides_j1 _ _ _ _ (.inl rfl)
    · split
      · exact NumDivides_j1 _ _ _ _ (.inl rfl)
      · rename_i c1 c2
        by_cases c3 : (q.natAbs : Int) > 1000000000
        · exact NumDivides_j1 _ _ _ _ (.inl (decide_eq_true c3))
        · have hm := num_over_m (a.natAbs * 1000000) b.natAbs (by omega) (by omega) (by omega) (by omega)
          rw [hm] at hq
          have hn := num_near a b (by omega) (by omega) hb0
          rw [← hq] at hn
          have hp1 : (q.natAbs * b.natAbs : Int) ≤ 1000000000 * 1000000000 := Int.mul_le_mul (by omega) (by omega) (by omega) (by omega)
          have hp2 : ((q * b).natAbs : Int) = q.natAbs * b.natAbs := by rw [Int.natAbs_mul]; simp
          exact NumDivides_j1 _ _ _ _ (.inr ⟨by omega, by omega, by omega, by omega, by omega, by omega, by omega, by omega, hn⟩)
  · simp only [Option.bind_some]
    rw [if_neg (by decide)]
    exact NumDivides_j1 _ _ _ _ (.inl rfl)
theorem NumDivides_pure (a b : Int) : foolscaplaw01_NumDivides.f 3 a b = some true := by
  unfold foolscaplaw01_NumDivides.f
  rw [num_Mod_eq 3 (by omega)]
  simp only [Option.bind_some]
  cases ha : num_fits a with
  | false => simp [num_lives 3]
  | true =>
    cases hb : num_fits b with
    | false => simp [num_lives 3]
    | true =>
      rw [if_pos rfl, if_pos rfl]
      by_cases hb0 : b = 0
      · rw [if_pos hb0]; simp [num_lives 3]
      · obtain ⟨a0, a1⟩ := num_fits_le ha
        obtain ⟨b0, b1⟩ := num_fits_le hb
        rw [if_neg hb0]
        obtain ⟨r, hr, h1, h2⟩ := num_left a b a0 a1 b0 b1 hb0
        rw [hr]
        simp only
        rw [if_pos trivial]
        by_cases hr0 : r = 0
        · rw [if_pos hr0]
          exact NumDivides_j0 a b ha hb hb0
        · have hs : ((decide (r < 0)) != (decide (b < 0))) = false := by
            by_cases hbn : b < 0
            · rw [decide_eq_true hbn, decide_eq_true (by have := h2 hbn; omega)]; rfl
            · rw [decide_eq_false hbn, decide_eq_false (by have := h1 (by omega); omega)]; rfl
          have hlt : ¬ (r.natAbs : Int) ≥ b.natAbs := by
            by_cases hbn : b < 0
            · have := h2 hbn; omega
            · have := h1 (by omega); omega
          rw [if_neg hr0, hs, if_neg (by decide), num_size_eq r (by omega) (by omega), num_size_eq b (by omega) (by omega)]
          simp only [Option.bind_some]
          rw [decide_eq_false hlt]
          exact NumDivides_j0 a b ha hb hb0
theorem NumDivides_walk (a0 a1 : Int) (w : World) (w0 : (Lit.int .i64 a0).wf = true) (w1 : (Lit.int .i64 a1).wf = true) (hL : Aside0 (LaidW w)) :
    Calls Tryd.prog 4 #[.int .i64 a0, .int .i64 a1] w fun e w' => e = .returned (.bool true) ∧ Below w.heap.size w w' :=
  foolscaplaw01_NumDivides.calls 3 a0 a1 true w (NumDivides_pure a0 a1) hL
end Go.Proofs.YtdhieabmpkfdhaaDoor.Pr
