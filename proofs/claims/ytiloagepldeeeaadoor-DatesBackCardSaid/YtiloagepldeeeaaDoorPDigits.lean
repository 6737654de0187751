/-
  The reference's digits are the library's.
-/
import Derived.Test.YtiloagepldeeeaaDoorPr14
import Derived.Test.YtiloagepldeeeaaDoorPText
import Derived.WalkKit
namespace Go.Proofs.YtiloagepldeeeaaDoor.Pr
set_option linter.unusedVariables false
open Go.RowKit Go.Proofs.YtiloagepldeeeaaDoorW.PrintWords Go.Proofs.YtiloagepldeeeaaDoorW.PrintMore
theorem strOfNums_one (d : Nat) (h : d < 10) : strOfNums [(wrap64 (48 + (d : Int))) % 256] = bl [UInt8.ofNat (48 + d)] := by
  unfold strOfNums bl
  rw [show wrap64 (48 + (d : Int)) % 256 = ((48 + d : Nat) : Int) by unfold wrap64; omega]
  simp only [List.map_cons, List.map_nil, Int.toNat_natCast]
theorem ref01_Digits_eq (f : Nat) : ∀ (k u : Nat), f < k → u < 10 ^ (f + 1) → f ≤ 18 → foolscapref01_Digits.f k (u : Int) = some (bl (Lib.decDigits u)) := by
  induction f with
  | zero =>
    intro k u hk hu hf
    obtain ⟨k, rfl⟩ : ∃ q, k = q + 1 := ⟨k - 1, by omega⟩
    simp only [foolscapref01_Digits.f, Option.bind_some]
    rw [if_pos (by omega), Int.tmod_eq_emod_of_nonneg (by omega), show (u : Int) % 10 = ((u % 10 : Nat) : Int) by omega, strOfNums_one _ (Nat.mod_lt _ (by decide)), Nat.mod_eq_of_lt (by omega), decDigits_small u (by omega)]
  | succ f ih =>
    intro k u hk hu hf
    obtain ⟨k, rfl⟩ : ∃ q, k = q + 1 := ⟨k - 1, by omega⟩
    simp only [foolscapref01_Digits.f, Option.bind_some]
    rw [Int.tmod_eq_emod_of_nonneg (by omega), show (u : Int) % 10 = ((u % 10 : Nat) : Int) by omega, strOfNums_one _ (Nat.mod_lt _ (by decide))]
    by_cases c : u < 10
    · rw [if_pos (by omega), Nat.mod_eq_of_lt c, decDigits_small u c]
    · have hpow : 10 ^ (f + 1 + 1) ≤ 10 ^ 20 := Nat.pow_le_pow_right (by decide) (by omega)
      have hq : u / 10 < 10 ^ (f + 1) := by rw [Nat.pow_succ] at hu; omega
      have hpow2 : 10 ^ (f + 1) ≤ 10 ^ 18 := Nat.pow_le_pow_right (by decide) (by omega)
      have hl := decDigits_length f (u / 10) hq
      rw [if_neg (by omega), Int.tdiv_eq_ediv_of_nonneg (by omega), show (u : Int) / 10 = ((u / 10 : Nat) : Int) by omega, show wrap64 ((u / 10 : Nat) : Int) = ((u / 10 : Nat) : Int) by unfold wrap64; omega, ih k (u / 10) (by omega) hq (by omega), Option.bind_some]
      rw [bl_size, bl_size, if_pos (by simp; omega), bl_append, decDigits_big u c]
end Go.Proofs.YtiloagepldeeeaaDoor.Pr
