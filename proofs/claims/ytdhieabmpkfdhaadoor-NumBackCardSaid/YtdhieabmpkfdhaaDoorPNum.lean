/-
  Plain facts on the number functions: what each comes to, over whole numbers alone.
-/
import Derived.Test.YtdhieabmpkfdhaaDoorPr1
import Derived.Test.YtdhieabmpkfdhaaDoorPr2
import Derived.Test.YtdhieabmpkfdhaaDoorPr4
import Derived.Test.YtdhieabmpkfdhaaDoorPr5
import Derived.Test.YtdhieabmpkfdhaaDoorXNum
import Derived.WalkKit
import Derived.Test.YtdhieabmpkfdhaaDoorPText
import Derived.OpenShut
namespace Go.Proofs.YtdhieabmpkfdhaaDoor.Pr
set_option linter.unusedVariables false
open Go.RowKit Go.Proofs.YtdhieabmpkfdhaaDoorW.PrintWords Go.Proofs.YtdhieabmpkfdhaaDoorW.PrintMore
theorem i64_of_wf {a : Int} (h : (Lit.int .i64 a).wf = true) : -9223372036854775808 ≤ a ∧ a ≤ 9223372036854775807 := by
  have := bounds_i64 h
  omega
theorem w64 {a : Int} (h0 : -9223372036854775808 ≤ a) (h1 : a ≤ 9223372036854775807) : wrap64 a = a := by unfold wrap64; omega
theorem num_Fits_eq (a : Int) : num_Fits.f a = some (num_fits a) := by
  cases h : num_fits a with
  | true => exact num_Fits_yes h
  | false => exact num_Fits_no h
theorem num_fits_true {a : Int} (h0 : -1000000000000000000 ≤ a) (h1 : a ≤ 1000000000000000000) : num_fits a = true := by unfold num_fits; simp; omega
theorem num_fits_no {a : Int} (h : num_fits a = false) : a < -1000000000000000000 ∨ 1000000000000000000 < a := by
  unfold num_fits at h
  simp only [decide_eq_false_iff_not] at h
  omega
theorem num_told_eq (a : Int) : num_told.f a = some (if num_fits a = true then (a, 0) else (0, 3)) := by
  unfold num_told.f
  rw [num_Fits_eq]
  simp only [Option.bind_some]
  split <;> rfl
/-! ### rounding a quotient -/
/-- the quotient, rounded. -/
def num_m (n d : Int) : Int := if n % d > d - n % d ∨ (n % d = d - n % d ∧ n / d % 2 = 1) then n / d + 1 else n / d
theorem num_over_m (n d : Int) (h0 : 0 ≤ n) (h1 : n ≤ 1000000000000000000) (h2 : 1 ≤ d) (h3 : d ≤ 1000000000000000000) :
    num_over n d = (num_m n d, decide (num_m n d ≤ 1000000000000000000)) := by
  have hq0 : 0 ≤ n / d := Int.ediv_nonneg h0 (by omega)
  have hq2 : n / d ≤ n := Int.ediv_le_self _ h0
  have hu : num_up (n / d) (n % d) d = num_m n d := by
    unfold num_up num_m
    split
    · rw [IntKind.wrap_u64]; omega
    · rfl
  unfold num_over
  rw [if_neg (by omega), hu]
  have hm : 0 ≤ num_m n d ∧ num_m n d ≤ 1000000000000000001 := by
    unfold num_m
    split <;> omega
  rw [show wrap64 (num_m n d) = num_m n d by unfold wrap64; omega]
theorem num_m_spec (n d : Int) (h0 : 0 ≤ n) (h2 : 1 ≤ d) :
    0 ≤ num_m n d ∧ 2 * (n - num_m n d * d) ≤ d ∧ -d ≤ 2 * (n - num_m n d * d) ∧ (2 * (n - num_m n d * d) = d ∨ 2 * (n - num_m n d * d) = -d → num_m n d % 2 = 0) := by
  have hm := Int.mul_ediv_add_emod n d
  have hc := Int.mul_comm d (n / d)
  have hr0 := Int.emod_nonneg n (show d ≠ 0 by omega)
  have hr1 := Int.emod_lt_of_pos n (show 0 < d by omega)
  have hq0 : 0 ≤ n / d := Int.ediv_nonneg h0 (by omega)
  have hadd : (n / d + 1) * d = n / d * d + d := by rw [Int.add_mul]; omega
  unfold num_m
  split
  · rw [hadd]; refine ⟨by omega, by omega, by omega, by omega⟩
  · refine ⟨by omega, by omega, by omega, by omega⟩
theorem num_m_exact (n d : Int) (h0 : 0 ≤ n) (h2 : 1 ≤ d) : num_m (n * d) d = n := by
  unfold num_m
  rw [Int.mul_emod_left, Int.mul_ediv_cancel _ (by omega), if_neg (by omega)]
theorem num_over_exact (n d : Int) (h0 : 0 ≤ n) (h1 : n ≤ 1000000000000000000) (h2 : 1 ≤ d) (h3 : d ≤ 1000000000000000000) : num_over (n * d) d = (n, true) := by
  have hu : num_up (n * d / d) (n * d % d) d = n := by
    unfold num_up
    rw [Int.mul_emod_left, Int.mul_ediv_cancel _ (by omega), if_neg (by omega)]
  have hlt : n * d < d * 18446744073709551616 := by
    have : n * d ≤ 1000000000000000000 * d := Int.mul_le_mul_of_nonneg_right h1 (by omega)
    omega
  unfold num_over
  rw [hu, if_neg (by omega), decide_eq_true h1, w64 (by omega) (by omega)]
theorem num_signed_self (a : Int) (b : Int) (hb : 0 < b) : num_signed a b a.natAbs = a := by
  unfold num_signed num_sg
  by_cases h : a < 0
  · rw [decide_eq_true h, decide_eq_false (by omega : ¬ b < 0)]; simp; omega
  · rw [decide_eq_false h, decide_eq_false (by omega : ¬ b < 0)]; simp; omega
theorem num_Print_7 : num_Print.f 7500000 = some ((⟨#[55, 46, 53]⟩ : ByteArray), 0) := by
  unfold num_Print.f
  rw [num_Fits_eq]
  have h1 : strconv_Itoa.f (mx 7500000 (wrap64 (-7500000))) = some ⟨#[55, 53, 48, 48, 48, 48, 48]⟩ := by
    have e : mx 7500000 (wrap64 (-7500000)) = 7500000 := by decide +kernel
    rw [e]
    unfold strconv_Itoa.f
    rw [if_pos (by decide +kernel), itoa_eq _ (by decide +kernel)]
    decide +kernel
  have h0 : num_fits 7500000 = true := by decide +kernel
  rw [h1, h0]
  decide +kernel
theorem num_Mod_eq (k : Nat) (hk : 1 ≤ k) (a b : Int) : num_Mod.f k a b = some (if num_fits a = true then (if num_fits b = true then (if b = 0 then (0, 4) else (Int.tmod (wrap64 (Int.tmod a b + b)) b, 0)) else (0, 2)) else (0, 2)) := by
  obtain ⟨k, rfl⟩ : ∃ m, k = m + 1 := ⟨k - 1, by omega⟩
  unfold num_Mod.f
  rw [num_Fits_eq, num_Fits_eq]
  simp only [Option.bind_some, num_Mod.j0]
  cases num_fits a <;> cases num_fits b <;> simp
  split <;> rfl
theorem num_lives (k : Nat) (hk : 1 ≤ k) : foolscaplaw01_lives.f k = some true := by
  unfold foolscaplaw01_lives.f
  rw [num_Print_7, num_Mod_eq k hk]
  decide +kernel
end Go.Proofs.YtdhieabmpkfdhaaDoor.Pr
