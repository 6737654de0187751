/-
  The law NumRounds, over whole numbers alone, and the walk that follows.
-/
import Derived.Test.YtdhieabmpkfdhaaDoorPr6
import Derived.Test.YtdhieabmpkfdhaaDoorPr7
import Derived.Test.YtdhieabmpkfdhaaDoorPNum
namespace Go.Proofs.YtdhieabmpkfdhaaDoor.Pr
set_option linter.unusedVariables false
open Go.RowKit Go.Proofs.YtdhieabmpkfdhaaDoorW.PrintWords Go.Proofs.YtdhieabmpkfdhaaDoorW.PrintMore
theorem NumRounds_fits (a : Int) : foolscapref01_Fits.f a = num_Fits.f a := rfl
theorem NumRounds_told (a : Int) : foolscapref01_told.f a = num_told.f a := rfl
theorem NumRounds_floor (a : Int) : ∃ x, num_Floor.f a = some x ∧ foolscapref01_Floor.f a = some x := by
  unfold num_Floor.f foolscapref01_Floor.f
  rw [NumRounds_fits, NumRounds_told, NumRounds_told, num_Fits_eq]
  simp only [Option.bind_some]
  cases ha : num_fits a with
  | false => simp
  | true =>
    obtain ⟨h0, h1⟩ := num_fits_le ha
    have r0 := Int.lt_tmod_of_pos a (show (0 : Int) < 1000000 by decide)
    have r1 := Int.tmod_lt_of_pos a (show (0 : Int) < 1000000 by decide)
    rw [w64 (a := Int.tmod a 1000000 + 1000000) (by omega) (by omega)]
    by_cases hn : Int.tmod a 1000000 < 0
    · have e : Int.tmod (Int.tmod a 1000000 + 1000000) 1000000 = Int.tmod a 1000000 + 1000000 := by
        rw [Int.tmod_eq_emod_of_nonneg (by omega), Int.emod_eq_of_lt (by omega) (by omega)]
      rw [if_pos hn, e, num_told_eq]
      simp
    · have e : Int.tmod (Int.tmod a 1000000 + 1000000) 1000000 = Int.tmod a 1000000 := by
        rw [Int.tmod_eq_emod_of_nonneg (by omega), Int.add_emod_right, Int.emod_eq_of_lt (by omega) (by omega)]
      rw [if_neg hn, e, num_told_eq]
      simp
theorem NumRounds_even (n d : Int) (h0 : 0 ≤ n) (h1 : n ≤ 1000000000000000000) (h2 : 1 ≤ d) (h3 : d ≤ 1000000000000000000) : foolscapref01_even.f (n / d) (n % d) d = some (num_m n d) := by
  have hr0 := Int.emod_nonneg n (show d ≠ 0 by omega)
  have hr1 := Int.emod_lt_of_pos n (show 0 < d by omega)
  have hq0 : 0 ≤ n / d := Int.ediv_nonneg h0 (by omega)
  have hq2 : n / d ≤ n := Int.ediv_le_self _ h0
  unfold foolscapref01_even.f num_m
  rw [w64 (a := d - n % d) (by omega) (by omega), w64 (a := n / d + 1) (by omega) (by omega), Int.tmod_eq_emod_of_nonneg hq0]
  by_cases c1 : n % d > d - n % d
  · rw [if_pos c1, if_pos (.inl c1)]
  · rw [if_neg c1]
    by_cases c2 : n % d = d - n % d
    · rw [if_pos c2]
      by_cases c3 : n / d % 2 = 1
      · rw [if_pos c3, if_pos (.inr ⟨c2, c3⟩)]
      · rw [if_neg c3, if_neg (fun h => h.elim c1 (fun h => c3 h.2))]
    · rw [if_neg c2, if_neg (fun h => h.elim c1 (fun h => c2 h.1))]
/-- Round's answer. -/
def num_R (n d : Int) : Int × Int := if d * num_m n.natAbs d > 1000000000000000000 then (0, 3) else if n < 0 then (-(d * num_m n.natAbs d), 0) else (d * num_m n.natAbs d, 0)
theorem num_m_mul (n d : Int) (h0 : 0 ≤ n) (h1 : n ≤ 1000000000000000000) (h2 : 1 ≤ d) (h3 : d ≤ 1000000000000000000) : 0 ≤ d * num_m n d ∧ d * num_m n d ≤ 2000000000000000000 := by
  obtain ⟨s0, s1, s2⟩ := num_over_small n d h0 h1 h2 h3
  rw [num_over_m n d h0 h1 h2 h3] at s0 s1 s2
  rw [Int.mul_comm]
  exact ⟨Int.mul_nonneg s0 (by omega), s2⟩
theorem num_Round_R (n d : Int) (h0 : -1000000000000000000 ≤ n) (h1 : n ≤ 1000000000000000000) (h2 : 1 ≤ d) (h3 : d ≤ 1000000000000000000) : num_told.f (num_round n d) = some (num_R n d) := by
  obtain ⟨b0, b1⟩ := num_m_mul n.natAbs d (by omega) (by omega) h2 h3
  rw [num_told_eq]
  unfold num_round num_signed num_sg num_R
  rw [num_over_m n.natAbs d (by omega) (by omega) h2 h3]
  simp only
  rw [Int.mul_comm d] at b0 b1 ⊢
  rw [decide_eq_false (show ¬ d < 0 by omega)]
  by_cases c : n < 0
  · rw [decide_eq_true c, if_pos c, show (!(true == false)) = true from rfl, if_pos rfl, Int.neg_mul]
    by_cases cb : num_m n.natAbs d * d > 1000000000000000000
    · rw [if_pos cb, if_neg (by unfold num_fits; simp; omega)]
    · rw [if_neg cb, if_pos (num_fits_true (by omega) (by omega))]
  · rw [decide_eq_false c, if_neg c, show (!(false == false)) = false from rfl, if_neg (show ¬ (false = true) by decide)]
    by_cases cb : num_m n.natAbs d * d > 1000000000000000000
    · rw [if_pos cb, if_neg (by unfold num_fits; simp; omega)]
    · rw [if_neg cb, if_pos (num_fits_true (by omega) (by omega))]
theorem NumRounds_l0 (n : Int) (h0 : -1000000000000000000 ≤ n) (h1 : n ≤ 1000000000000000000) (j : Nat) : ∀ (k i : Nat) (p : Int), j < k → (j : Int) = 6 - p → i + j ≤ 18 → foolscapref01_Round.l0 k n (num_pow i) p = some (num_R n (num_pow (i + j))) := by
  induction j with
  | zero =>
    intro k i p hk hp hi
    obtain ⟨k, rfl⟩ : ∃ m, k = m + 1 := ⟨k - 1, by omega⟩
    have b0 := num_pow_pos i
    have b1 := num_pow_le i (by omega)
    obtain ⟨b2, b3⟩ := num_m_mul n.natAbs (num_pow i) (by omega) (by omega) b0 b1
    have hs : foolscapref01_Size.f n = some (n.natAbs : Int) := by
      unfold foolscapref01_Size.f
      rw [w64 (by omega) (by omega)]
      congr 1
      unfold mx
      split <;> omega
    have hn : (0 : Int) ≤ n.natAbs := by omega
    have hq0 : 0 ≤ (n.natAbs : Int) / num_pow i := Int.ediv_nonneg hn (by omega)
    have hq2 : (n.natAbs : Int) / num_pow i ≤ n.natAbs := Int.ediv_le_self _ hn
    simp only [foolscapref01_Round.l0]
    rw [if_neg (by omega), hs]
    simp only [Option.bind_some]
    rw [if_neg (by omega), Int.tdiv_eq_ediv_of_nonneg hn, Int.tmod_eq_emod_of_nonneg hn, w64 (a := (n.natAbs : Int) / num_pow i) (by omega) (by omega), NumRounds_even n.natAbs (num_pow i) hn (by omega) b0 b1]
    simp only [Option.bind_some]
    rw [w64 (a := num_pow i * num_m n.natAbs (num_pow i)) (by omega) (by omega), w64 (a := -(num_pow i * num_m n.natAbs (num_pow i))) (by omega) (by omega)]
    unfold num_R
    rw [Nat.add_zero]
    split
    · rfl
    · split <;> rfl
  | succ j ih =>
    intro k i p hk hp hi
    obtain ⟨k, rfl⟩ : ∃ m, k = m + 1 := ⟨k - 1, by omega⟩
    have b0 := num_pow_pos (i + 1)
    have b1 := num_pow_le (i + 1) (by omega)
    have b2 := num_pow_succ i
    simp only [foolscapref01_Round.l0]
    rw [if_pos (by omega), show wrap64 (10 * num_pow i) = num_pow (i + 1) by rw [w64 (by omega) (by omega)]; omega, w64 (a := p + 1) (by omega) (by omega),
      ih k (i + 1) (p + 1) (by omega) (by omega) (by omega), show i + 1 + j = i + (j + 1) by omega]
theorem NumRounds_round (n p : Int) : ∃ x, num_Round.f n p = some x ∧ foolscapref01_Round.f 20 n p = some x := by
  unfold num_Round.f foolscapref01_Round.f
  rw [NumRounds_fits, num_Fits_eq]
  simp only [Option.bind_some, foolscapref01_Round.j0]
  cases hn : num_fits n with
  | false => simp
  | true =>
    obtain ⟨h0, h1⟩ := num_fits_le hn
    by_cases c1 : p < -12
    · rw [if_neg (by omega)]; simp [c1]
    · by_cases c2 : p > 6
      · rw [if_neg (by omega)]; simp [c1, c2]
      · rw [if_pos ⟨rfl, by omega, by omega⟩]
        obtain ⟨j, hj⟩ : ∃ j : Nat, 6 - p = j := ⟨(6 - p).toNat, by omega⟩
        have hl := NumRounds_l0 n h0 h1 j 19 0 p (by omega) hj.symm (by omega)
        rw [show num_pow 0 = 1 from rfl, Nat.zero_add] at hl
        refine ⟨num_R n (num_pow j), ?_, ?_⟩
        · rw [hj, Int.toNat_natCast, num_Round_R n _ h0 h1 (num_pow_pos _) (num_pow_le _ (by omega))]
        · simp [c1, c2, hl]
theorem NumRounds_pure (a b : Int) : foolscaplaw01_NumRounds.f 20 a b = some true := by
  obtain ⟨x, h1, h2⟩ := NumRounds_round a b
  obtain ⟨y, h3, h4⟩ := NumRounds_floor a
  unfold foolscaplaw01_NumRounds.f
  rw [h1, h2, h3, h4, num_lives 20 (by omega)]
  simp
theorem NumRounds_walk (a0 a1 : Int) (w : World) (w0 : (Lit.int .i64 a0).wf = true) (w1 : (Lit.int .i64 a1).wf = true) (hL : Aside0 (LaidW w)) :
    Calls Tryd.prog 5 #[.int .i64 a0, .int .i64 a1] w fun e w' => e = .returned (.bool true) ∧ Below w.heap.size w w' :=
  foolscaplaw01_NumRounds.calls 20 a0 a1 true w (NumRounds_pure a0 a1) hL
end Go.Proofs.YtdhieabmpkfdhaaDoor.Pr
