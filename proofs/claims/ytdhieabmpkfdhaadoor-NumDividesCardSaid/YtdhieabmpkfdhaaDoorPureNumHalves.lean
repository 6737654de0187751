/-
  The law NumHalves, over whole numbers alone, and the walk that follows.
-/
import Derived.Test.YtdhieabmpkfdhaaDoorPr5
import Derived.Test.YtdhieabmpkfdhaaDoorPureNumRounds
namespace Go.Proofs.YtdhieabmpkfdhaaDoor.Pr
set_option linter.unusedVariables false
open Go.RowKit Go.Proofs.YtdhieabmpkfdhaaDoorW.PrintWords Go.Proofs.YtdhieabmpkfdhaaDoorW.PrintMore
theorem num_size_eq (a : Int) (h0 : -9223372036854775807 ≤ a) (h1 : a ≤ 9223372036854775807) : foolscaplaw01_size.f a = some (a.natAbs : Int) := by
  unfold foolscaplaw01_size.f
  rw [w64 (by omega) (by omega)]
  congr 1
  unfold mx
  split <;> omega
/-- the law's own loop comes to the same power. -/
theorem NumHalves_l0 (n x : Int) (r : Bool) (j : Nat) : ∀ (k i : Nat) (p : Int), (j : Int) = 6 - p → i + j ≤ 18 →
    foolscaplaw01_NumHalves.l0 (k + 1) n x (num_pow (i + j)) 6 = some r → foolscaplaw01_NumHalves.l0 (k + 1 + j) n x (num_pow i) p = some r := by
  induction j with
  | zero =>
    intro k i p hp hi h
    obtain rfl : p = 6 := by omega
    exact h
  | succ j ih =>
    intro k i p hp hi h
    have b0 := num_pow_pos (i + 1)
    have b1 := num_pow_le (i + 1) (by omega)
    have b2 := num_pow_succ i
    rw [show k + 1 + (j + 1) = (k + 1 + j) + 1 by omega]
    simp only [foolscaplaw01_NumHalves.l0]
    rw [if_pos (by omega), show wrap64 (10 * num_pow i) = num_pow (i + 1) by rw [w64 (by omega) (by omega)]; omega, w64 (a := p + 1) (by omega) (by omega)]
    exact ih k (i + 1) (p + 1) (by omega) (by omega) (by rw [show i + 1 + j = i + (j + 1) by omega]; exact h)
theorem num_R_signed (n d : Int) : num_R n d = (if d * num_m n.natAbs d > 1000000000000000000 then (0, 3) else (if n < 0 then -(d * num_m n.natAbs d) else d * num_m n.natAbs d, 0)) := by
  unfold num_R
  split
  · rfl
  · split <;> rfl
theorem NumHalves_end (n d : Int) (k : Nat) (h0 : -1000000000000000000 ≤ n) (h1 : n ≤ 1000000000000000000) (h2 : 1 ≤ d) (h3 : d ≤ 1000000000000000000) (hf : (num_R n d).2 = 0) :
    foolscaplaw01_NumHalves.l0 (k + 2) n (num_R n d).1 d 6 = some true := by
  obtain ⟨b0, b1⟩ := num_m_mul n.natAbs d (by omega) (by omega) h2 h3
  obtain ⟨m0, m1, m2, m3⟩ := num_m_spec n.natAbs d (by omega) h2
  rw [Int.mul_comm (num_m n.natAbs d) d] at m1 m2 m3
  obtain ⟨m, hm⟩ : ∃ m, m = num_m n.natAbs d := ⟨_, rfl⟩
  have hR := num_R_signed n d
  rw [← hm] at hR b0 b1 m0 m1 m2 m3
  have hbig : ¬ d * m > 1000000000000000000 := by
    intro hb
    rw [hR, if_pos hb] at hf
    exact absurd hf (by decide)
  rw [if_neg hbig] at hR
  obtain ⟨x, hx⟩ : ∃ x, x = (num_R n d).1 := ⟨_, rfl⟩
  have hx2 : x = if n < 0 then -(d * m) else d * m := by rw [hx, hR]
  rw [← hx]
  have hxr : -1000000000000000000 ≤ x ∧ x ≤ 1000000000000000000 := by rw [hx2]; split <;> omega
  have hoff : ((x - n).natAbs : Int) = ((d * m - n.natAbs).natAbs : Int) := by
    rw [hx2]
    split <;> omega
  have hmod : Int.tmod x d = 0 := by
    rw [hx2]
    split
    · rw [show -(d * m) = d * -m by rw [Int.mul_neg]]; exact Int.mul_tmod_right _ _
    · exact Int.mul_tmod_right _ _
  have hdiv : Int.tdiv x d = if n < 0 then -m else m := by
    rw [hx2]
    split
    · rw [show -(d * m) = d * -m by rw [Int.mul_neg]]; exact Int.mul_tdiv_cancel_left _ (by omega)
    · exact Int.mul_tdiv_cancel_left _ (by omega)
  have hmle : m ≤ 1000000000000000000 := by
    have : 1 * m ≤ d * m := Int.mul_le_mul_of_nonneg_right h2 m0
    omega
  simp only [foolscaplaw01_NumHalves.l0]
  rw [if_neg (by omega), w64 (a := x - n) (by omega) (by omega), num_size_eq _ (by omega) (by omega)]
  simp only [Option.bind_some]
  rw [if_neg (by omega), if_pos hmod, w64 (a := d - ((x - n).natAbs : Int)) (by omega) (by omega), num_lives (k + 1) (by omega)]
  simp only [Option.bind_some]
  by_cases c1 : ((x - n).natAbs : Int) < d - (x - n).natAbs
  · rw [if_pos c1]
  · have c2 : ((x - n).natAbs : Int) = d - (x - n).natAbs := by omega
    rw [if_neg c1, if_pos c2, hdiv]
    have he : m % 2 = 0 := m3 (by omega)
    rw [w64 (by split <;> omega) (by split <;> omega), if_pos]
    split
    · rw [Int.neg_tmod, Int.tmod_eq_emod_of_nonneg m0]; omega
    · rw [Int.tmod_eq_emod_of_nonneg m0]; exact he
theorem NumHalves_pure (a b : Int) : ∃ k, foolscaplaw01_NumHalves.f k a b = some true := by
  by_cases c : num_fits a = true ∧ -12 ≤ b ∧ b ≤ 6
  · obtain ⟨h0, h1⟩ := num_fits_le c.1
    obtain ⟨j, hj⟩ : ∃ j : Nat, 6 - b = j := ⟨(6 - b).toNat, by omega⟩
    have hr : num_Round.f a b = some (num_R a (num_pow j)) := by
      unfold num_Round.f
      rw [if_pos c, hj, Int.toNat_natCast, num_Round_R a _ h0 h1 (num_pow_pos _) (num_pow_le _ (by omega))]
    refine ⟨2 + j, ?_⟩
    unfold foolscaplaw01_NumHalves.f
    rw [hr]
    simp only [Option.bind_some]
    split
    · rename_i hf
      have he := NumHalves_end a (num_pow j) 0 h0 h1 (num_pow_pos _) (num_pow_le _ (by omega)) hf
      have hl := NumHalves_l0 a (num_R a (num_pow j)).1 true j 1 0 b hj.symm (by omega) (by rw [Nat.zero_add]; exact he)
      exact hl
    · rename_i hf
      have : num_R a (num_pow j) = (0, 3) := by
        rw [num_R_signed] at hf ⊢
        split
        · rfl
        · rename_i hb
          rw [if_neg hb] at hf
          exact absurd rfl hf
      rw [this, num_lives _ (by omega)]
      simp
  · refine ⟨1, ?_⟩
    unfold foolscaplaw01_NumHalves.f num_Round.f
    rw [if_neg c, num_lives 1 (Nat.le_refl _)]
    simp
theorem NumHalves_walk (a0 a1 : Int) (w : World) (w0 : (Lit.int .i64 a0).wf = true) (w1 : (Lit.int .i64 a1).wf = true) (hL : Aside0 (LaidW w)) :
    Calls Tryd.prog 3 #[.int .i64 a0, .int .i64 a1] w fun e w' => e = .returned (.bool true) ∧ Below w.heap.size w w' := by
  obtain ⟨k, h⟩ := NumHalves_pure a0 a1
  exact foolscaplaw01_NumHalves.calls k a0 a1 true w h hL
end Go.Proofs.YtdhieabmpkfdhaaDoor.Pr
