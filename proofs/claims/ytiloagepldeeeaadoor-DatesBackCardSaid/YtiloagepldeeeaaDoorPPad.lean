/-
  So many decimal digits, as lists of bytes. No program is in sight.
-/
import Derived.Test.YtiloagepldeeeaaDoorPNumL
namespace Go.Proofs.YtiloagepldeeeaaDoor.Pr
set_option linter.unusedVariables false
set_option linter.unusedSimpArgs false
/-! ### so many digits -/
def padN : Nat → Nat → List UInt8
  | 0, _ => []
  | k + 1, u => padN k (u / 10) ++ [UInt8.ofNat (48 + u % 10)]
theorem padN_succ (k u : Nat) : padN (k + 1) u = padN k (u / 10) ++ [UInt8.ofNat (48 + u % 10)] := rfl
theorem padN_length (k : Nat) : ∀ u, (padN k u).length = k := by
  induction k with
  | zero => intro u; rfl
  | succ k ih => intro u; rw [padN_succ, List.length_append, ih]; rfl
theorem dg_of (d : Nat) (h : d < 10) : dg (UInt8.ofNat (48 + d)) = true ∧ (UInt8.ofNat (48 + d)).toNat - 48 = d := by
  have : (UInt8.ofNat (48 + d)).toNat = 48 + d := by rw [UInt8.toNat_ofNat']; omega
  rw [dg_iff, this]
  omega
theorem all_one (c : UInt8) (h : dg c = true) : ([c] : List UInt8).all dg = true := by rw [List.all_cons, h]; rfl
theorem padN_all (k : Nat) : ∀ u, (padN k u).all dg = true := by
  induction k with
  | zero => intro u; rfl
  | succ k ih => intro u; rw [padN_succ, List.all_append, ih, all_one _ (dg_of (u % 10) (Nat.mod_lt _ (by decide))).1]; rfl
theorem padN_val (k : Nat) : ∀ u, dval 0 (padN k u) = u % 10 ^ k := by
  induction k with
  | zero => intro u; rw [Nat.pow_zero, Nat.mod_one]; rfl
  | succ k ih =>
    intro u
    rw [padN_succ, dval_snoc, ih, (dg_of (u % 10) (Nat.mod_lt _ (by decide))).2, Nat.pow_succ, Nat.mul_comm (10 ^ k) 10, Nat.mod_mul]
    omega
theorem padN_congr (k : Nat) : ∀ u v, u % 10 ^ k = v % 10 ^ k → padN k u = padN k v := by
  induction k with
  | zero => intro u v h; rfl
  | succ k ih =>
    intro u v h
    rw [Nat.pow_succ, Nat.mul_comm (10 ^ k) 10, Nat.mod_mul, Nat.mod_mul] at h
    rw [padN_succ, padN_succ, ih (u / 10) (v / 10) (by omega), show u % 10 = v % 10 by omega]
theorem padN_front (k : Nat) : ∀ u, padN (k + 1) u = UInt8.ofNat (48 + u / 10 ^ k % 10) :: padN k u := by
  induction k with
  | zero => intro u; rw [Nat.pow_zero, Nat.div_one]; rfl
  | succ k ih =>
    intro u
    rw [padN_succ, ih, padN_succ k u, Nat.div_div_eq_div_mul, Nat.pow_succ, Nat.mul_comm 10 (10 ^ k), List.cons_append]
theorem padN_zero (k : Nat) : padN k 0 = List.replicate k 48 := by
  induction k with
  | zero => rfl
  | succ k ih => rw [padN_succ, Nat.zero_div, ih, List.replicate_succ']; rfl
theorem decDigits_split (k : Nat) : ∀ u, 10 ^ k ≤ u → Lib.decDigits u = Lib.decDigits (u / 10 ^ k) ++ padN k u := by
  induction k with
  | zero => intro u h; rw [Nat.pow_zero, Nat.div_one]; simp [padN]
  | succ k ih =>
    intro u h
    have hp : 0 < 10 ^ k := Nat.pow_pos (by decide)
    rw [Nat.pow_succ] at h
    rw [decDigits_big u (by omega), ih (u / 10) (by omega), Nat.div_div_eq_div_mul, Nat.pow_succ, Nat.mul_comm 10 (10 ^ k), padN_succ, List.append_assoc]
theorem decDigits_pad (k : Nat) : ∀ u, u < 10 ^ (k + 1) → List.replicate (k + 1 - (Lib.decDigits u).length) 48 ++ Lib.decDigits u = padN (k + 1) u := by
  induction k with
  | zero => intro u h; rw [decDigits_small u (by omega)]; rw [padN_succ, Nat.mod_eq_of_lt (by omega)]; rfl
  | succ k ih =>
    intro u h
    by_cases c : u < 10
    · rw [decDigits_small u c, padN_succ, Nat.mod_eq_of_lt c, show u / 10 = 0 by omega, padN_zero]; rfl
    · rw [Nat.pow_succ] at h
      rw [decDigits_big u c, padN_succ, ← ih (u / 10) (by omega), List.length_append, List.append_assoc]
      congr 2
      simp
theorem decDigits_all (f : Nat) : ∀ u, u < 10 ^ (f + 1) → (Lib.decDigits u).all dg = true ∧ dval 0 (Lib.decDigits u) = u := by
  induction f with
  | zero =>
    intro u h
    rw [decDigits_small u (by omega)]
    have := dg_of u (by omega)
    refine ⟨all_one _ this.1, ?_⟩
    rw [dval_cons, dval_nil, this.2]; omega
  | succ f ih =>
    intro u h
    by_cases c : u < 10
    · have := dg_of u c
      rw [decDigits_small u c]
      refine ⟨all_one _ this.1, ?_⟩
      rw [dval_cons, dval_nil, this.2]; omega
    · rw [Nat.pow_succ] at h
      have h1 := ih (u / 10) (by omega)
      have h2 := dg_of (u % 10) (Nat.mod_lt _ (by decide))
      rw [decDigits_big u c]
      refine ⟨by rw [List.all_append, h1.1, all_one _ h2.1]; rfl, ?_⟩
      rw [dval_snoc, h1.2, h2.2]; omega
end Go.Proofs.YtiloagepldeeeaaDoor.Pr
