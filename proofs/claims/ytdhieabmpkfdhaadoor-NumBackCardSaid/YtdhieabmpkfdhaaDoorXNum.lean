/-
  Products, quotients and roundings of numbers: what num.Mul, num.Div and num.Round compute, as plain functions, and that the Go code computes it.
-/
import Derived.Test.YtdhieabmpkfdhaaDoorPr1
import Derived.Test.YtdhieabmpkfdhaaDoorPr3
import Derived.Test.YtdhieabmpkfdhaaDoorXLib
import Derived.WalkKit
import Derived.Below
import Derived.Deep.RegionWith
import Derived.Laws.Bits64b
namespace Go.Proofs.YtdhieabmpkfdhaaDoor.Pr
open Go.RowKit Go.Proofs.YtdhieabmpkfdhaaDoorW.PrintWords Go.Proofs.YtdhieabmpkfdhaaDoorW.PrintMore
/-! ### The division of two words by one: what the loops come to -/
theorem d64_w {x : Int} (h0 : 0 ≤ x) (h1 : x < 18446744073709551616) : IntKind.u64.wrap x = x := by rw [IntKind.wrap_u64]; omega
/-- a step's arithmetic: y = y1 B + y0, q y1 + r = u. -/
structure D64 (y y1 y0 u v q r : Int) : Prop where mk ::
  (hy : y = y1 * 4294967296 + y0) (h10 : 1 ≤ y1) (h11 : y1 < 4294967296) (h00 : 0 ≤ y0) (h01 : y0 < 4294967296)
  (u0 : 0 ≤ u) (u1 : u < y) (v0 : 0 ≤ v) (v1 : v < 4294967296) (hq : q * y1 + r = u) (r0 : 0 ≤ r) (r1 : r < 4294967296) (q0 : (u * 4294967296 + v) / y ≤ q)
theorem D64.ypos {y y1 y0 u v q r : Int} (h : D64 y y1 y0 u v q r) : 0 < y := by have := h.hy; have := h.h10; have := h.h00; omega
theorem D64.Q0 {y y1 y0 u v q r : Int} (h : D64 y y1 y0 u v q r) : 0 ≤ (u * 4294967296 + v) / y := Int.ediv_nonneg (by have := h.u0; have := h.v0; omega) (by have := h.ypos; omega)
theorem D64.QB {y y1 y0 u v q r : Int} (h : D64 y y1 y0 u v q r) : (u * 4294967296 + v) / y < 4294967296 := by
  refine Int.ediv_lt_of_lt_mul h.ypos ?_
  have := h.u1; have := h.v1
  omega
theorem D64.mul {y y1 y0 u v q r : Int} (h : D64 y y1 y0 u v q r) : q * y = (u - r) * 4294967296 + q * y0 := by
  have := h.hq
  rw [h.hy, Int.mul_add, ← Int.mul_assoc]
  omega
theorem D64.exact {y y1 y0 u v q r : Int} (h : D64 y y1 y0 u v q r) (hle : q * y0 ≤ 4294967296 * r + v) : q = (u * 4294967296 + v) / y := by
  have hm := h.mul
  have : q ≤ (u * 4294967296 + v) / y := (Int.le_ediv_iff_mul_le h.ypos).2 (by rw [hm]; omega)
  have := h.q0
  omega
theorem D64.lower {y y1 y0 u v q r : Int} (h : D64 y y1 y0 u v q r) (hlt : 4294967296 ≤ q ∨ 4294967296 * r + v < q * y0) : (u * 4294967296 + v) / y ≤ q - 1 := by
  rcases hlt with hlt | hlt
  · have := h.QB; omega
  · have hm := h.mul
    have : (u * 4294967296 + v) / y < q := Int.ediv_lt_of_lt_mul h.ypos (by rw [hm]; omega)
    omega
theorem D64.step {y y1 y0 u v q r : Int} (h : D64 y y1 y0 u v q r) (hlt : 4294967296 ≤ q ∨ 4294967296 * r + v < q * y0) (hr : r + y1 < 4294967296) : D64 y y1 y0 u v (q - 1) (r + y1) :=
  ⟨h.hy, h.h10, h.h11, h.h00, h.h01, h.u0, h.u1, h.v0, h.v1, by rw [Int.sub_mul]; have := h.hq; omega, by have := h.r0; have := h.h10; omega, hr, h.lower hlt⟩
theorem D64.broke {y y1 y0 u v q r : Int} (h : D64 y y1 y0 u v q r) (hlt : 4294967296 ≤ q ∨ 4294967296 * r + v < q * y0) (hr : 4294967296 ≤ r + y1) : q - 1 = (u * 4294967296 + v) / y := by
  have hl := h.lower hlt
  have hQ := h.Q0
  have hqB : q - 1 < 4294967296 := by
    have h1 := h.hq; have h2 := h.u1; have h3 := h.hy; have h4 := h.h01
    refine Int.lt_of_not_ge fun hge => ?_
    have h5 : 4294967296 * y1 ≤ (q - 1) * y1 := Int.mul_le_mul_of_nonneg_right hge (by have := h.h10; omega)
    rw [Int.sub_mul] at h5
    omega
  have hprod : (q - 1) * y0 ≤ 4294967295 * y0 := Int.mul_le_mul_of_nonneg_right (by omega) h.h00
  have hm : (q - 1) * y = (u - (r + y1)) * 4294967296 + (q - 1) * y0 := by
    have h2 := h.mul; have h3 := h.hy
    have e0 : (q - 1) * y0 = q * y0 - y0 := by rw [Int.sub_mul]; omega
    have e1 : (q - 1) * y = q * y - y := by rw [Int.sub_mul]; omega
    omega
  have : q - 1 ≤ (u * 4294967296 + v) / y := (Int.le_ediv_iff_mul_le h.ypos).2 (by rw [hm]; have := h.h01; have := h.v0; omega)
  omega
theorem D64.start {y y1 y0 u v : Int} (hy : y = y1 * 4294967296 + y0) (h10 : 1 ≤ y1) (h11 : y1 < 4294967296) (h00 : 0 ≤ y0) (h01 : y0 < 4294967296) (u0 : 0 ≤ u) (u1 : u < y) (v0 : 0 ≤ v) (v1 : v < 4294967296) :
    D64 y y1 y0 u v (u / y1) (u - u / y1 * y1) := by
  have hm := Int.mul_ediv_add_emod u y1
  have hc := Int.mul_comm y1 (u / y1)
  have hr0 := Int.emod_nonneg u (show y1 ≠ 0 by omega)
  have hr1 := Int.emod_lt_of_pos u (show 0 < y1 by omega)
  have hq0 : 0 ≤ u / y1 := Int.ediv_nonneg u0 (by omega)
  refine ⟨hy, h10, h11, h00, h01, u0, u1, v0, v1, by omega, by omega, by omega, ?_⟩
  have hyp : 0 < y := by omega
  have : (u * 4294967296 + v) / y < u / y1 + 1 := by
    refine Int.ediv_lt_of_lt_mul hyp ?_
    have h1 : (u / y1 + 1) * y = u / y1 * y1 * 4294967296 + u / y1 * y0 + y := by
      rw [Int.add_mul, Int.one_mul]
      have : u / y1 * y = u / y1 * y1 * 4294967296 + u / y1 * y0 := by conv => lhs; rw [hy, Int.mul_add, ← Int.mul_assoc]
      omega
    have h2 : 0 ≤ u / y1 * y0 := Int.mul_nonneg hq0 h00
    omega
  omega
/-- the first loop. -/
theorem d64_l0 (y s y1 y0 u v un0 : Int) (res : Int × Int) (hj : ∃ k, bits_Div64.j2 k y s y1 y0 u v un0 ((u * 4294967296 + v) / y) = some res) (d : Nat) :
    ∀ q r, D64 y y1 y0 u v q r → (4294967296 - r).toNat ≤ d → q ≤ 18446744073709551615 → ∃ k, bits_Div64.l0 k y s y1 y0 u v un0 q r = some res := by
  induction d with
  | zero => intro q r h hd; have := h.r1; omega
  | succ d ih =>
    intro q r h hd hq
    obtain ⟨k, hk⟩ := hj
    have hQ0 := h.Q0; have hqQ := h.q0; have hr0 := h.r0; have hr1 := h.r1; have h10 := h.h10; have h11 := h.h11; have h00 := h.h00; have h01 := h.h01; have v0 := h.v0; have v1 := h.v1
    have e1 : IntKind.u64.wrap (4294967296 * r) = 4294967296 * r := d64_w (by omega) (by omega)
    have e2 : IntKind.u64.wrap (4294967296 * r + v) = 4294967296 * r + v := d64_w (by omega) (by omega)
    have e3 : IntKind.u64.wrap (r + y1) = r + y1 := d64_w (by omega) (by omega)
    have down : (4294967296 ≤ q ∨ 4294967296 * r + v < q * y0) → ∃ k, bits_Div64.j1 k y s y1 y0 u v un0 q r true = some res := by
      intro hlt
      have hl := h.lower hlt
      have e4 : IntKind.u64.wrap (q - 1) = q - 1 := d64_w (by omega) (by omega)
      by_cases hb : r + y1 ≥ 4294967296
      · refine ⟨k + 1, ?_⟩
        simp only [bits_Div64.j1]
        rw [if_pos trivial, e3, if_pos hb, e4, h.broke hlt hb, hk]
      · obtain ⟨k2, hk2⟩ := ih (q - 1) (r + y1) (h.step hlt (by omega)) (by omega) (by omega)
        refine ⟨k2 + 1, ?_⟩
        simp only [bits_Div64.j1]
        rw [if_pos trivial, e3, if_neg hb, e4, hk2]
    by_cases hB : q ≥ 4294967296
    · obtain ⟨k1, hk1⟩ := down (.inl hB)
      refine ⟨k1 + 1, ?_⟩
      simp only [bits_Div64.l0]
      rw [if_pos hB, hk1]
    · have hp0 : 0 ≤ q * y0 := Int.mul_nonneg (by omega) h00
      have hp1 : q * y0 ≤ 4294967295 * 4294967295 := Int.mul_le_mul (by omega) (by omega) h00 (by omega)
      have e5 : IntKind.u64.wrap (q * y0) = q * y0 := d64_w hp0 (by omega)
      by_cases ht : q * y0 > 4294967296 * r + v
      · obtain ⟨k1, hk1⟩ := down (.inr ht)
        refine ⟨k1 + 1, ?_⟩
        simp only [bits_Div64.l0]
        rw [if_neg hB, e5, e1, e2, decide_eq_true ht, hk1]
      · refine ⟨k + 2, ?_⟩
        simp only [bits_Div64.l0, bits_Div64.j1]
        rw [if_neg hB, e5, e1, e2, decide_eq_false ht, if_neg (by simp)]
        rw [h.exact (by omega), hk]
/-- the second loop. -/
theorem d64_l1 (y s y1 y0 u v q1 : Int) (res : Int × Int) (hs : 0 ≤ s) (hj : res = (IntKind.u64.wrap (IntKind.u64.wrap (q1 * 4294967296) + (u * 4294967296 + v) / y), shr .u64 (IntKind.u64.wrap (IntKind.u64.wrap (IntKind.u64.wrap (u * 4294967296) + v) - IntKind.u64.wrap ((u * 4294967296 + v) / y * y))) s)) (d : Nat) :
    ∀ q r, D64 y y1 y0 u v q r → (4294967296 - r).toNat ≤ d → q ≤ 18446744073709551615 → ∃ k, bits_Div64.l1 k y s y1 y0 v q1 r u q = some res := by
  induction d with
  | zero => intro q r h hd; have := h.r1; omega
  | succ d ih =>
    intro q r h hd hq
    have hQ0 := h.Q0; have hqQ := h.q0; have hr0 := h.r0; have hr1 := h.r1; have h10 := h.h10; have h11 := h.h11; have h00 := h.h00; have h01 := h.h01; have v0 := h.v0; have v1 := h.v1
    have e1 : IntKind.u64.wrap (4294967296 * r) = 4294967296 * r := d64_w (by omega) (by omega)
    have e2 : IntKind.u64.wrap (4294967296 * r + v) = 4294967296 * r + v := d64_w (by omega) (by omega)
    have e3 : IntKind.u64.wrap (r + y1) = r + y1 := d64_w (by omega) (by omega)
    have down : (4294967296 ≤ q ∨ 4294967296 * r + v < q * y0) → ∃ k, bits_Div64.j4 k y s y1 y0 v q1 r u q true = some res := by
      intro hlt
      have hl := h.lower hlt
      have e4 : IntKind.u64.wrap (q - 1) = q - 1 := d64_w (by omega) (by omega)
      by_cases hb : r + y1 ≥ 4294967296
      · refine ⟨1, ?_⟩
        simp only [bits_Div64.j4]
        rw [if_pos trivial, e3, if_pos hb, if_pos hs, e4, h.broke hlt hb, hj]
      · obtain ⟨k2, hk2⟩ := ih (q - 1) (r + y1) (h.step hlt (by omega)) (by omega) (by omega)
        refine ⟨k2 + 1, ?_⟩
        simp only [bits_Div64.j4]
        rw [if_pos trivial, e3, if_neg hb, e4, hk2]
    by_cases hB : q ≥ 4294967296
    · obtain ⟨k1, hk1⟩ := down (.inl hB)
      refine ⟨k1 + 1, ?_⟩
      simp only [bits_Div64.l1]
      rw [if_pos hB, hk1]
    · have hp0 : 0 ≤ q * y0 := Int.mul_nonneg (by omega) h00
      have hp1 : q * y0 ≤ 4294967295 * 4294967295 := Int.mul_le_mul (by omega) (by omega) h00 (by omega)
      have e5 : IntKind.u64.wrap (q * y0) = q * y0 := d64_w hp0 (by omega)
      by_cases ht : q * y0 > 4294967296 * r + v
      · obtain ⟨k1, hk1⟩ := down (.inr ht)
        refine ⟨k1 + 1, ?_⟩
        simp only [bits_Div64.l1]
        rw [if_neg hB, e5, e1, e2, decide_eq_true ht, hk1]
      · refine ⟨2, ?_⟩
        simp only [bits_Div64.l1, bits_Div64.j4]
        rw [if_neg hB, e5, e1, e2, decide_eq_false ht, if_neg (by simp)]
        rw [if_pos hs, h.exact (by omega), hj]
theorem d64_len (x : Nat) : x ≠ 0 → x < 2 ^ 64 → 1 ≤ Lib.bitLen x ∧ 2 ^ (Lib.bitLen x - 1) ≤ x ∧ x < 2 ^ (Lib.bitLen x) := by
  induction x using Nat.strongRecOn with
  | _ x ih =>
    intro h0 h1
    rw [Lib.bitLen_half x h0 h1]
    by_cases h2 : x / 2 = 0
    · have : x = 1 := by omega
      subst this
      decide
    · obtain ⟨a, b, c⟩ := ih (x / 2) (by omega) h2 (by omega)
      refine ⟨by omega, ?_, ?_⟩
      · rw [show 1 + Lib.bitLen (x / 2) - 1 = (Lib.bitLen (x / 2) - 1) + 1 by omega, Nat.pow_succ]; omega
      · rw [show 1 + Lib.bitLen (x / 2) = Lib.bitLen (x / 2) + 1 by omega, Nat.pow_succ]; omega
theorem d64_mask (x : Int) (h0 : 0 ≤ x) (h1 : x < 18446744073709551616) : bits .and .u64 x 4294967295 = x % 4294967296 := by
  obtain ⟨n, rfl⟩ := Int.eq_ofNat_of_zero_le h0
  have h := bits_and_u64_nat n 4294967295 (by omega) (by omega)
  rw [show (4294967295 : Int) = ((4294967295 : Nat) : Int) from rfl, h, show (4294967295 : Nat) = 2 ^ 32 - 1 from rfl, Nat.and_two_pow_sub_one_eq_mod]
  omega
theorem d64_or (h l : Nat) (s : Nat) (hl : l < 2 ^ s) (hb : h * 2 ^ s + l < 18446744073709551616) : bits .or .u64 ((h * 2 ^ s : Nat) : Int) (l : Int) = ((h * 2 ^ s + l : Nat) : Int) := by
  rw [bits_or_u64_nat _ _ (by omega) (by omega), ← Nat.shiftLeft_eq, Nat.shiftLeft_add_eq_or_of_lt hl]
/-- the two loops, one behind the other. -/
theorem d64_both (y s y1 y0 u v un0 : Int) (hy : y = y1 * 4294967296 + y0) (h10 : 1 ≤ y1) (h11 : y1 < 4294967296) (h00 : 0 ≤ y0) (h01 : y0 < 4294967296) (u0 : 0 ≤ u) (u1 : u < y) (v0 : 0 ≤ v) (v1 : v < 4294967296) (n0 : 0 ≤ un0) (n1 : un0 < 4294967296) (hs : 0 ≤ s) :
    ∃ k, bits_Div64.l0 k y s y1 y0 u v un0 (IntKind.u64.wrap (Int.tdiv u y1)) (IntKind.u64.wrap (u - IntKind.u64.wrap (IntKind.u64.wrap (Int.tdiv u y1) * y1))) =
      some (((u * 4294967296 + v) * 4294967296 + un0) / y, shr .u64 (((u * 4294967296 + v) * 4294967296 + un0) % y) s) := by
  have hyp : 0 < y := by omega
  have hyM : y < 18446744073709551616 := by omega
  -- what a round begins with
  have first : ∀ u, 0 ≤ u → u < y → IntKind.u64.wrap (Int.tdiv u y1) = u / y1 ∧ IntKind.u64.wrap (u - IntKind.u64.wrap (u / y1 * y1)) = u - u / y1 * y1 := by
    intro u u0 u1
    have hm := Int.mul_ediv_add_emod u y1
    have hc := Int.mul_comm y1 (u / y1)
    have hr0 := Int.emod_nonneg u (show y1 ≠ 0 by omega)
    have hr1 := Int.emod_lt_of_pos u (show 0 < y1 by omega)
    have hq0 : 0 ≤ u / y1 := Int.ediv_nonneg u0 (by omega)
    have hq1 : u / y1 ≤ u := Int.ediv_le_self _ u0
    have hp0 : 0 ≤ u / y1 * y1 := Int.mul_nonneg hq0 (by omega)
    rw [Int.tdiv_eq_ediv_of_nonneg u0, d64_w hq0 (by omega)]
    refine ⟨rfl, ?_⟩
    rw [d64_w (x := u / y1 * y1) (by omega) (by omega), d64_w (by omega) (by omega)]
  obtain ⟨Q1, hQ1⟩ : ∃ Q, Q = (u * 4294967296 + v) / y := ⟨_, rfl⟩
  obtain ⟨V, hV⟩ : ∃ V, V = (u * 4294967296 + v) % y := ⟨_, rfl⟩
  have hm1 := Int.mul_ediv_add_emod (u * 4294967296 + v) y
  rw [← hQ1, ← hV, Int.mul_comm] at hm1
  have V0 : 0 ≤ V := by rw [hV]; exact Int.emod_nonneg _ (by omega)
  have V1 : V < y := by rw [hV]; exact Int.emod_lt_of_pos _ hyp
  have D1 := D64.start hy h10 h11 h00 h01 u0 u1 v0 v1
  have D2 := D64.start hy h10 h11 h00 h01 V0 V1 n0 n1
  have Q10 := D1.Q0
  have Q1B := D1.QB
  rw [← hQ1] at Q10 Q1B
  obtain ⟨Q0, hQ0⟩ : ∃ Q, Q = (V * 4294967296 + un0) / y := ⟨_, rfl⟩
  obtain ⟨R, hR⟩ : ∃ V', V' = (V * 4294967296 + un0) % y := ⟨_, rfl⟩
  have hm2 := Int.mul_ediv_add_emod (V * 4294967296 + un0) y
  rw [← hQ0, ← hR, Int.mul_comm] at hm2
  have R0 : 0 ≤ R := by rw [hR]; exact Int.emod_nonneg _ (by omega)
  have R1 : R < y := by rw [hR]; exact Int.emod_lt_of_pos _ hyp
  have Q00 := D2.Q0
  have Q0B := D2.QB
  rw [← hQ0] at Q00 Q0B
  -- the whole
  have whole : (u * 4294967296 + v) * 4294967296 + un0 = (Q1 * 4294967296 + Q0) * y + R := by
    have : (Q1 * 4294967296 + Q0) * y = Q1 * y * 4294967296 + Q0 * y := by rw [Int.add_mul, Int.mul_right_comm]
    omega
  have qr := (Int.ediv_emod_unique (a := (u * 4294967296 + v) * 4294967296 + un0) (q := Q1 * 4294967296 + Q0) (r := R) hyp).2 ⟨by rw [whole, Int.mul_comm]; omega, R0, R1⟩
  rw [qr.1, qr.2]
  obtain ⟨f1, f2⟩ := first u u0 u1
  obtain ⟨g1, g2⟩ := first V V0 V1
  rw [f1, f2]
  have hdc : ∀ x : Int, (4294967296 - x).toNat ≤ (4294967296 - x).toNat := fun _ => Nat.le_refl _
  have hq1le : u / y1 ≤ u := Int.ediv_le_self _ u0
  have hq2le : V / y1 ≤ V := Int.ediv_le_self _ V0
  refine d64_l0 y s y1 y0 u v un0 _ ?_ _ _ _ D1 (Nat.le_refl _) (by omega)
  have hval : (IntKind.u64.wrap (IntKind.u64.wrap (Q1 * 4294967296) + (V * 4294967296 + un0) / y), shr .u64 (IntKind.u64.wrap (IntKind.u64.wrap (IntKind.u64.wrap (V * 4294967296) + un0) - IntKind.u64.wrap ((V * 4294967296 + un0) / y * y))) s) = (Q1 * 4294967296 + Q0, shr .u64 R s) := by
    rw [← hQ0, d64_w (x := Q1 * 4294967296) (by omega) (by omega), d64_w (x := Q1 * 4294967296 + Q0) (by omega) (by omega)]
    congr 2
    simp only [IntKind.wrap_u64]
    omega
  obtain ⟨k, hk⟩ := d64_l1 y s y1 y0 V un0 Q1 _ hs hval.symm _ _ _ D2 (Nat.le_refl _) (by omega)
  refine ⟨k + 1, ?_⟩
  simp only [bits_Div64.j2]
  have hV' : IntKind.u64.wrap (IntKind.u64.wrap (IntKind.u64.wrap (u * 4294967296) + v) - IntKind.u64.wrap (Q1 * y)) = V := by
    simp only [IntKind.wrap_u64]
    omega
  rw [if_neg (by omega), ← hQ1, hV', g1, g2, hk]
theorem div64_spec (h l y : Int) (h0 : 0 ≤ h) (h1 : h < y) (h2 : y ≤ 1000000000000000000) (l0 : 0 ≤ l) (l1 : l < 18446744073709551616) :
    ∃ k, bits_Div64.f k h l y = some ((h * 18446744073709551616 + l) / y, (h * 18446744073709551616 + l) % y) := by
  by_cases hz : h = 0
  · refine ⟨0, ?_⟩
    unfold bits_Div64.f
    subst hz
    rw [if_neg (by omega), if_neg (by omega), if_pos rfl, Int.tdiv_eq_ediv_of_nonneg l0, Int.tmod_eq_emod_of_nonneg l0]
    have : l / y ≤ l := Int.ediv_le_self _ l0
    have : 0 ≤ l / y := Int.ediv_nonneg l0 (by omega)
    rw [d64_w (by omega) (by omega)]
    simp
  · obtain ⟨Y, rfl⟩ := Int.eq_ofNat_of_zero_le (show 0 ≤ y by omega)
    obtain ⟨H, rfl⟩ := Int.eq_ofNat_of_zero_le h0
    obtain ⟨L, rfl⟩ := Int.eq_ofNat_of_zero_le l0
    obtain ⟨b1, b2, b3⟩ := d64_len Y (by omega) (by omega)
    obtain ⟨b, hb⟩ : ∃ b, b = Lib.bitLen Y := ⟨_, rfl⟩
    rw [← hb] at b1 b2 b3
    have b64 : b ≤ 64 := by
      rw [hb]
      exact Lib.bitLen_le Y 64 (Nat.le_refl _) (by omega)
    obtain ⟨s, hs⟩ : ∃ s, s + b = 64 := ⟨64 - b, by omega⟩
    have hpow : 2 ^ s * 2 ^ b = 18446744073709551616 := by rw [← Nat.pow_add, hs]
    have hp0 : 0 < 2 ^ s := Nat.pow_pos (by decide)
    have hc0 : 0 < 2 ^ b := Nat.pow_pos (by decide)
    have hpow1 : 2 ^ s * 2 ^ (b - 1) = 9223372036854775808 := by rw [← Nat.pow_add, show s + (b - 1) = 63 by omega]
    generalize hp : 2 ^ s = p at *
    generalize hc : 2 ^ b = c at *
    have y1 : Y * p < 18446744073709551616 := by
      have := Nat.mul_lt_mul_of_pos_right b3 hp0
      rw [Nat.mul_comm c p, hpow] at this
      exact this
    have y2 : 9223372036854775808 ≤ Y * p := by
      have := Nat.mul_le_mul_right p b2
      rw [Nat.mul_comm (2 ^ (b - 1)) p, hpow1] at this
      exact this
    have hH : (H + 1) * p ≤ Y * p := Nat.mul_le_mul_right p (by omega)
    rw [Nat.add_mul, Nat.one_mul] at hH
    have hLc : L / c < p := (Nat.div_lt_iff_lt_mul hc0).2 (by rw [hpow]; omega)
    have hLm := Nat.div_add_mod L c
    have hLr := Nat.mod_lt L hc0
    have hLp : L * p = L / c * 18446744073709551616 + L % c * p := by
      conv => lhs; rw [← hLm]
      rw [Nat.add_mul, Nat.mul_comm c, Nat.mul_assoc, Nat.mul_comm c p, hpow]
    have hLp2 : L % c * p < 18446744073709551616 := by
      have := Nat.mul_lt_mul_of_pos_right hLr hp0
      rw [Nat.mul_comm c p, hpow] at this
      exact this
    have hlz : bits_LeadingZeros64.f (Y : Int) = some (s : Int) := by
      unfold bits_LeadingZeros64.f
      rw [if_pos (by omega), Int.toNat_natCast, ← hb]
      congr 1
      omega
    have ws : IntKind.u64.wrap (s : Int) = s := d64_w (by omega) (by omega)
    have ws2 : IntKind.u64.wrap (64 - (s : Int)) = (b : Int) := by rw [d64_w (by omega) (by omega)]; omega
    have shlp : ∀ x : Nat, shl .u64 (x : Int) s = ((x * p % 18446744073709551616 : Nat) : Int) := by
      intro x
      unfold shl
      rw [Int.toNat_natCast, Nat.min_eq_left (show s ≤ IntKind.bits .u64 by show s ≤ 64; omega), IntKind.wrap_u64]
      have : (2 : Int) ^ s = ((p : Nat) : Int) := by rw [← hp]; simp
      rw [this]
      simp
    have shrc : ∀ x : Nat, shr .u64 (x : Int) b = ((x / c : Nat) : Int) := by
      intro x
      unfold shr
      rw [Int.toNat_natCast, Nat.min_eq_left (show b ≤ IntKind.bits .u64 by show b ≤ 64; omega)]
      have : (2 : Int) ^ b = ((c : Nat) : Int) := by rw [← hc]; simp
      rw [this]
      simp
    have eY : shl .u64 (Y : Int) s = ((Y * p : Nat) : Int) := by rw [shlp, Nat.mod_eq_of_lt y1]
    have eH : shl .u64 (H : Int) s = ((H * p : Nat) : Int) := by rw [shlp, Nat.mod_eq_of_lt (by omega)]
    have eL : shl .u64 (L : Int) s = ((L % c * p : Nat) : Int) := by rw [shlp, hLp]; congr 1; omega
    have eU : bits .or .u64 (shl .u64 (H : Int) s) (shr .u64 (L : Int) b) = ((H * p + L / c : Nat) : Int) := by
      rw [eH, shrc, ← hp, d64_or H (L / c) s (by rw [hp]; exact hLc) (by rw [hp]; omega)]
    have hk := d64_both ((Y * p : Nat) : Int) s (((Y * p : Nat) : Int) / 4294967296) (((Y * p : Nat) : Int) % 4294967296) ((H * p + L / c : Nat) : Int) (((L % c * p : Nat) : Int) / 4294967296) (((L % c * p : Nat) : Int) % 4294967296)
      (by omega) (by omega) (by omega) (by omega) (by omega) (by omega) (by omega) (by omega) (by omega) (by omega) (by omega) (by omega)
    obtain ⟨k, hk⟩ := hk
    refine ⟨k, ?_⟩
    unfold bits_Div64.f
    rw [if_neg (by omega), if_neg (by omega), if_neg hz, hlz]
    simp only [Option.bind_some]
    rw [ws, ws2, eU, eL, eY, d64_mask _ (by omega) (by omega), d64_mask _ (by omega) (by omega), if_pos (by omega), if_pos (by omega), if_neg (by omega), hk]
    -- the numbers
    have hN : ((H * p + L / c : Nat) : Int) * 4294967296 * 4294967296 + ((L % c * p : Nat) : Int) = ((H * 18446744073709551616 + L : Nat) : Int) * p := by
      have : (H * p + L / c) * 18446744073709551616 + L % c * p = (H * 18446744073709551616 + L) * p := by
        rw [Nat.add_mul (H * 18446744073709551616) L p, hLp, Nat.mul_right_comm H]
        omega
      omega
    have hN2 : (((H * p + L / c : Nat) : Int) * 4294967296 + ((L % c * p : Nat) : Int) / 4294967296) * 4294967296 + ((L % c * p : Nat) : Int) % 4294967296 = ((H * 18446744073709551616 + L : Nat) : Int) * p := by omega
    have hpp : (0 : Int) < p := by omega
    have hshr : ∀ x : Int, shr .u64 x s = x / p := by
      intro x
      unfold shr
      rw [Int.toNat_natCast, Nat.min_eq_left (show s ≤ IntKind.bits .u64 by show s ≤ 64; omega)]
      have : (2 : Int) ^ s = ((p : Nat) : Int) := by rw [← hp]; simp
      rw [this]
    rw [hN2, hshr, Int.natCast_mul Y p, Int.mul_comm _ (p : Int), Int.mul_comm _ (p : Int), Int.mul_ediv_mul_of_pos _ _ hpp, Int.mul_emod_mul_of_pos _ _ hpp, Int.mul_ediv_cancel_left _ (by omega)]
    simp
theorem d64_and1 (E : Int) (h0 : 0 ≤ E) (h1 : E ≤ 18446744073709551615) : bits BinOp.and IntKind.u64 E 1 = E % 2 := by
  have h := bits_and_u64_nat E.toNat 1 (by omega) (by omega)
  rw [Nat.and_one_is_mod, Int.toNat_of_nonneg h0] at h
  have h2 : ((E.toNat % 2 : Nat) : Int) = E % 2 := by omega
  exact h.trans h2
/-- up: what a quotient, not exact, is rounded to. -/
def num_up (q r y : Int) : Int := if r > y - r ∨ (r = y - r ∧ q % 2 = 1) then IntKind.u64.wrap (q + 1) else q
set_option maxHeartbeats 400000 in
theorem num_over_calls (h l y q r : Int) (k : Nat) (w : World) (hy : h < y) (hy2 : y ≤ 1000000000000000000) (hq0 : 0 ≤ q) (hq1 : q ≤ 18446744073709551615) (hr0 : 0 ≤ r) (hr1 : r < y)
   (hd : bits_Div64.f k h l y = some (q, r)) :
   Calls Tryd.prog 30 #[.agg #[.int .u64 h, .int .u64 l], .int .u64 y] w fun e w' => e = .returned (.tuple #[.int .i64 (wrap64 (num_up q r y)), .bool (decide (num_up q r y ≤ 1000000000000000000))]) ∧ Below w.heap.size w w' := by
  have HD := Aside0.mk hd
  clear hd
  have ha := d64_and1 q hq0 (by omega)
  have hrr : y - r ≤ 18446744073709551615 := by omega
  have hrr0 : 0 ≤ y - r := by omega
  by_cases c1 : r > y - r
  · have hup : num_up q r y = IntKind.u64.wrap (q + 1) := by unfold num_up; rw [if_pos (.inl c1)]
    have HUP := Aside0.mk hup
    clear hup ha
    go_enter Tryd.func30, Tryd.ntmps30
    go_wp2_with ((go_at_call 47; (with_reducible refine (bits_Div64.calls k _ _ _ q r _ HD.out).mono ?_); rintro e w1 ⟨rfl, nd, rfl⟩))
    go_ret2
    rw [HUP.out]
    exact ⟨rfl, pw_below_drewN ((Below.refl _ _).alloc (Nat.le_refl _) _) _⟩
  · by_cases c2 : r = y - r
    · have b2 : (r == y - r) = true := beq_iff_eq.2 c2
      by_cases c3 : q % 2 = 1
      · have hup : num_up q r y = IntKind.u64.wrap (q + 1) := by unfold num_up; rw [if_pos (.inr ⟨c2, c3⟩)]
        have HUP := Aside0.mk hup
        rw [c3] at ha
        clear hup c2 c3
        go_enter Tryd.func30, Tryd.ntmps30
        go_wp2_with ((go_at_call 47; (with_reducible refine (bits_Div64.calls k _ _ _ q r _ HD.out).mono ?_); rintro e w1 ⟨rfl, nd, rfl⟩))
        go_ret2
        rw [HUP.out]
        exact ⟨rfl, pw_below_drewN ((Below.refl _ _).alloc (Nat.le_refl _) _) _⟩
      · have hup : num_up q r y = q := by unfold num_up; rw [if_neg (by omega)]
        have HUP := Aside0.mk hup
        have h0 : q % 2 = 0 := by omega
        rw [h0] at ha
        clear hup c2 c3 h0
        go_enter Tryd.func30, Tryd.ntmps30
        go_wp2_with ((go_at_call 47; (with_reducible refine (bits_Div64.calls k _ _ _ q r _ HD.out).mono ?_); rintro e w1 ⟨rfl, nd, rfl⟩))
        go_ret2
        rw [HUP.out]
        exact ⟨rfl, pw_below_drewN ((Below.refl _ _).alloc (Nat.le_refl _) _) _⟩
    · have hup : num_up q r y = q := by unfold num_up; rw [if_neg (by omega)]
      have HUP := Aside0.mk hup
      have b2 : (r == y - r) = false := beq_eq_false_iff_ne.2 c2
      clear hup ha
      go_enter Tryd.func30, Tryd.ntmps30
      go_wp2_with ((go_at_call 47; (with_reducible refine (bits_Div64.calls k _ _ _ q r _ HD.out).mono ?_); rintro e w1 ⟨rfl, nd, rfl⟩))
      go_ret2
      rw [HUP.out]
      exact ⟨rfl, pw_below_drewN ((Below.refl _ _).alloc (Nat.le_refl _) _) _⟩

theorem num_bare_calls (a b : Int) (w : World) (ha : -1000000000000000000 ≤ a) (ha2 : a ≤ 1000000000000000000) (hb : -1000000000000000000 ≤ b) (hb2 : b ≤ 1000000000000000000) :
   Calls Tryd.prog 29 #[.int .i64 a, .int .i64 b] w fun e w' => e = .returned (.tuple #[.int .u64 a.natAbs, .int .u64 b.natAbs, .func (.func 46) #[] #[.pointer (some ⟨w.heap.size, 0, none⟩)]]) ∧ w' = w.alloc (Obj.cells #[.bool (!(decide (a < 0) == decide (b < 0)))] 4) := by
  go_enter Tryd.func29, Tryd.ntmps29
  go_wp2
  go_ret3
  rw [show (a.natAbs : Int) = max a (-a) by omega, show (b.natAbs : Int) = max b (-b) by omega]
  exact ⟨rfl, rfl⟩
def num_sg (m : Bool) (n : Int) : Int := if m then -n else n
theorem below_two {w w1 w2 : World} {n : Nat} {o : Obj} (hb1 : Below ((w.drewN n).alloc o).heap.size ((w.drewN n).alloc o) w1) (hb2 : Below w1.heap.size w1 w2) : Below w.heap.size w w2 :=
  below_then (below_then ((pw_below_drewN (Below.refl _ _) n).alloc (Nat.le_refl _) o) (by simp) hb1) (by have := hb1.size; simp at this; omega) hb2
theorem num_signed_calls (n : Int) (m : Bool) (p : Addr) (w : World) (hn : -1000000000000000000 ≤ n) (hn2 : n ≤ 1000000000000000000) (hc : w.cell? p = some (.bool m)) :
   Calls Tryd.prog 46 #[.int .i64 n, .pointer (some p)] w fun e w' => e = .returned (.int .i64 (num_sg m n)) ∧ w' = w := by
  go_enter Tryd.func46, Tryd.ntmps46
  cases m
  all_goals go_wp2
  all_goals go_ret
  all_goals exact ⟨rfl, rfl⟩
theorem num_times_calls (a b : Int) (w : World) (ha : 0 ≤ a) (ha2 : a < 18446744073709551616) (hb : 0 ≤ b) (hb2 : b < 18446744073709551616) :
   Calls Tryd.prog 32 #[.int .u64 a, .int .u64 b] w fun e w' => e = .returned (.agg #[.int .u64 (a * b / 18446744073709551616), .int .u64 (a * b % 18446744073709551616)]) ∧ Below w.heap.size w w' := by
  have hm : bits_Mul64.f a b = some (a * b / 18446744073709551616, a * b % 18446744073709551616) := by unfold bits_Mul64.f; rw [if_pos ⟨ha, ha2, hb, hb2⟩]
  generalize a * b / 18446744073709551616 = h at hm ⊢
  generalize a * b % 18446744073709551616 = l at hm ⊢
  have HM := Aside0.mk hm
  clear hm
  go_enter Tryd.func32, Tryd.ntmps32
  go_wp2_with ((go_at_call 48; (with_reducible refine (bits_Mul64.calls _ _ h l _ HM.out).mono ?_); rintro e w1 ⟨rfl, nd, rfl⟩))
  exact bodyPost_ret (v := .agg #[.int .u64 h, .int .u64 l]) (by simp [results, Tryd.results32, go_sem]) rfl ⟨rfl, below_set (below_set (pw_below_drewN ((Below.refl _ _).alloc (Nat.le_refl _) _) _) (Nat.le_refl _)) (Nat.le_refl _)⟩
/-- over: a product of two words, divided and rounded; false: it goes too far. -/
def num_over (P y : Int) : Int × Bool :=
  if y ≤ P / 18446744073709551616 then (0, false) else (wrap64 (num_up (P / y) (P % y) y), decide (num_up (P / y) (P % y) y ≤ 1000000000000000000))
theorem num_up_range (q r y : Int) (h0 : 0 ≤ q) : 0 ≤ num_up q r y := by
  unfold num_up
  split
  · rw [IntKind.wrap_u64]; omega
  · exact h0
theorem num_over_range (P y : Int) (hP : 0 ≤ P) (hy : 0 < y) : (num_over P y).2 = true → 0 ≤ (num_over P y).1 ∧ (num_over P y).1 ≤ 1000000000000000000 := by
  unfold num_over
  split
  · simp
  · rename_i hh
    intro h
    simp only [decide_eq_true_eq] at h
    have hq0 : 0 ≤ P / y := Int.ediv_nonneg hP (by omega)
    have hq1 : P / y ≤ 18446744073709551615 := by
      have : P < 18446744073709551616 * y := by omega
      have := Int.ediv_lt_of_lt_mul hy this
      omega
    have := num_up_range (P / y) (P % y) y hq0
    have e : wrap64 (num_up (P / y) (P % y) y) = num_up (P / y) (P % y) y := by unfold wrap64; omega
    simp only [e]
    omega
theorem num_over_any (P h l y : Int) (w : World) (hP : 0 ≤ P) (hP2 : P < 340282366920938463463374607431768211456) (hy : 0 < y) (hy2 : y ≤ 1000000000000000000) (hh : h = P / 18446744073709551616) (hl : l = P % 18446744073709551616) :
   Calls Tryd.prog 30 #[.agg #[.int .u64 h, .int .u64 l], .int .u64 y] w fun e w' => e = .returned (.tuple #[.int .i64 (num_over P y).1, .bool (num_over P y).2]) ∧ Below w.heap.size w w' := by
  by_cases c : y ≤ h
  · have e : num_over P y = (0, false) := by unfold num_over; rw [if_pos (by omega)]
    rw [e]
    clear hP hP2 hh hl e
    go_enter Tryd.func30, Tryd.ntmps30
    go_wp2
    go_ret2
    exact ⟨rfl, (Below.refl _ _).alloc (Nat.le_refl _) _⟩
  · obtain ⟨k, hk⟩ := div64_spec h l y (by omega) (by omega) hy2 (by omega) (by omega)
    have e1 : h * 18446744073709551616 + l = P := by omega
    rw [e1] at hk
    have e : num_over P y = (wrap64 (num_up (P / y) (P % y) y), decide (num_up (P / y) (P % y) y ≤ 1000000000000000000)) := by unfold num_over; rw [if_neg (by omega)]
    rw [e]
    have hq1 : P / y ≤ 18446744073709551615 := by
      have : P < 18446744073709551616 * y := by omega
      have := Int.ediv_lt_of_lt_mul hy this
      omega
    exact num_over_calls h l y (P / y) (P % y) k w (by omega) hy2 (Int.ediv_nonneg hP (by omega)) hq1 (Int.emod_nonneg _ (by omega)) (Int.emod_lt_of_pos _ hy) hk
def num_signed (a b n : Int) : Int := num_sg (!(decide (a < 0) == decide (b < 0))) n
def num_fits (a : Int) : Bool := decide (-1000000000000000000 ≤ a ∧ a ≤ 1000000000000000000)
theorem num_Fits_yes {a : Int} (h : num_fits a = true) : num_Fits.f a = some true := by
  unfold num_fits at h
  unfold num_Fits.f
  simp only [decide_eq_true_eq] at h
  rw [if_pos (by omega), decide_eq_true h.2]
theorem num_Fits_no {a : Int} (h : num_fits a = false) : num_Fits.f a = some false := by
  unfold num_fits at h
  unfold num_Fits.f
  simp only [decide_eq_false_iff_not] at h
  split
  · rw [decide_eq_false (by omega)]
  · rfl
theorem num_fits_le {a : Int} (h : num_fits a = true) : -1000000000000000000 ≤ a ∧ a ≤ 1000000000000000000 := by
  unfold num_fits at h
  simpa using h
/-- Mul. -/
def num_Mul.f (a0 : Int) (a1 : Int) : Option (Int × Int) :=
  if num_fits a0 = true then (if num_fits a1 = true then (if (num_over (a0.natAbs * a1.natAbs) 1000000).2 = true then some (num_signed a0 a1 (num_over (a0.natAbs * a1.natAbs) 1000000).1, 0) else some (0, 3)) else some (0, 2)) else some (0, 2)
theorem num_Mul_yes (a b n : Int) (ok : Bool) (w : World) (ca : num_fits a = true) (cb : num_fits b = true) (h : num_over (a.natAbs * b.natAbs) 1000000 = (n, ok)) :
   Calls Tryd.prog 24 #[.int .i64 a, .int .i64 b] w fun e w' => e = .returned (if ok then .tuple #[.int .i64 (num_signed a b n), .int .i64 0] else .tuple #[.int .i64 0, .int .i64 3]) ∧ Below w.heap.size w w' := by
  have F1 := Aside0.mk (num_Fits_yes ca)
  have F2 := Aside0.mk (num_Fits_yes cb)
  obtain ⟨ha, ha2⟩ := num_fits_le ca
  obtain ⟨hb, hb2⟩ := num_fits_le cb
  clear ca cb
  have e1 : (a.natAbs : Int) ≤ 1000000000000000000 := by omega
  have e2 : (b.natAbs : Int) ≤ 1000000000000000000 := by omega
  have e3 : (0 : Int) ≤ a.natAbs := by omega
  have e4 : (0 : Int) ≤ b.natAbs := by omega
  have hP : (0 : Int) ≤ a.natAbs * b.natAbs := Int.mul_nonneg e3 e4
  have hP2 : (a.natAbs : Int) * b.natAbs < 340282366920938463463374607431768211456 := by
    have := Int.mul_le_mul e1 e2 e4 (by omega : (0 : Int) ≤ 1000000000000000000)
    omega
  have hr := num_over_range (a.natAbs * b.natAbs) 1000000 hP (by omega)
  rw [h] at hr
  simp only at hr
  have HO := Aside0.mk h
  have HP := Aside0.mk hP
  have HP2 := Aside0.mk hP2
  have HS := Aside0.mk (show num_signed a b n = num_sg (!(decide (a < 0) == decide (b < 0))) n from rfl)
  clear h hP hP2
  cases ok
  all_goals
    try (obtain ⟨r0, r1⟩ := hr rfl)
    clear hr
    go_enter Tryd.func24, Tryd.ntmps24
    go_wp2_with (first | (go_at_call_of 22 (Value.int .i64 a); (with_reducible refine (num_Fits.calls _ true _ F1.out).mono ?_); rintro e w1 ⟨rfl, nd, rfl⟩) | (go_at_call 22; (with_reducible refine (num_Fits.calls _ true _ F2.out).mono ?_); rintro e w1 ⟨rfl, nd, rfl⟩) | (go_at_call 29; refine (num_bare_calls a b _ ha ha2 hb hb2).mono ?_; rintro e w1 ⟨rfl, rfl⟩) | (go_at_call 32; refine (num_times_calls _ _ _ e3 (by omega) e4 (by omega)).mono ?_; rintro e w1 ⟨rfl, hb1⟩) | (go_at_call 30; refine (num_over_any (a.natAbs * b.natAbs) _ _ _ _ HP.out HP2.out (by omega) (by omega) rfl rfl).mono ?_; rw [HO.out]; rintro e w2 ⟨rfl, hb2⟩))
  · go_ret2
    exact ⟨rfl, below_two hb1 hb2⟩
  · have hz := hb1.size
    simp at hz
    have hc : w1.cell? ⟨w.heap.size, 0, none⟩ = some (.bool (!(decide (a < 0) == decide (b < 0)))) := (hb1.cell (p := ⟨w.heap.size, 0, none⟩) (by simp)).trans (World.cell?_alloc_at _ _ _ _ (by simp))
    refine (num_signed_calls n (!(decide (a < 0) == decide (b < 0))) _ _ (by omega) r1 ((hb2.cell (p := ⟨w.heap.size, 0, none⟩) hz).trans hc)).mono ?_
    rw [← HS.out]
    rintro e w3 ⟨rfl, rfl⟩
    go_wp2
    go_ret2
    exact ⟨rfl, below_two hb1 hb2⟩

theorem num_Mul.calls (a0 : Int) (a1 : Int) (r1 : Int) (r2 : Int) (w : World) (h : num_Mul.f a0 a1 = some (r1, r2)) :
   Calls Tryd.prog 24 #[.int .i64 a0, .int .i64 a1] w fun e w' => e = .returned (.tuple #[.int .i64 r1, .int .i64 r2]) ∧ Below w.heap.size w w' := by
  unfold num_Mul.f at h
  split at h
  · rename_i c1
    split at h
    · rename_i c2
      have hy := num_Mul_yes a0 a1 (num_over (a0.natAbs * a1.natAbs) 1000000).1 (num_over (a0.natAbs * a1.natAbs) 1000000).2 w c1 c2 rfl
      split at h
      · rename_i c3
        rw [c3] at hy
        obtain ⟨rfl, rfl⟩ := Prod.mk.inj (Option.some.inj h)
        exact hy
      · rename_i c3
        rw [Bool.eq_false_iff.2 c3] at hy
        obtain ⟨rfl, rfl⟩ := Prod.mk.inj (Option.some.inj h)
        exact hy
    · rename_i c2
      obtain ⟨rfl, rfl⟩ := Prod.mk.inj (Option.some.inj h)
      have F1 := Aside0.mk (num_Fits_yes c1)
      have F2 := Aside0.mk (num_Fits_no (Bool.eq_false_iff.2 c2))
      clear c1 c2 h
      go_enter Tryd.func24, Tryd.ntmps24
      go_wp2_with (first | (go_at_call_of 22 (Value.int .i64 a0); (with_reducible refine (num_Fits.calls _ true _ F1.out).mono ?_); rintro e w1 ⟨rfl, nd, rfl⟩) | (go_at_call 22; (with_reducible refine (num_Fits.calls _ false _ F2.out).mono ?_); rintro e w1 ⟨rfl, nd, rfl⟩))
      go_ret2
      exact ⟨rfl, pw_below_drewN (Below.refl _ _) _⟩
  · rename_i c1
    obtain ⟨rfl, rfl⟩ := Prod.mk.inj (Option.some.inj h)
    have F1 := Aside0.mk (num_Fits_no (Bool.eq_false_iff.2 c1))
    clear c1 h
    go_enter Tryd.func24, Tryd.ntmps24
    go_wp2_with (go_at_call_of 22 (Value.int .i64 a0); (with_reducible refine (num_Fits.calls _ false _ F1.out).mono ?_); rintro e w1 ⟨rfl, nd, rfl⟩)
    go_ret2
    exact ⟨rfl, pw_below_drewN (Below.refl _ _) _⟩
/-- Div. -/
def num_Div.f (a0 : Int) (a1 : Int) : Option (Int × Int) :=
  if num_fits a0 = true then (if num_fits a1 = true then (if a1 = 0 then some (0, 4) else if (num_over (a0.natAbs * 1000000) a1.natAbs).2 = true then some (num_signed a0 a1 (num_over (a0.natAbs * 1000000) a1.natAbs).1, 0) else some (0, 3)) else some (0, 2)) else some (0, 2)
theorem num_Div_yes (a b n : Int) (ok : Bool) (w : World) (ca : num_fits a = true) (cb : num_fits b = true) (h : num_over (a.natAbs * 1000000) b.natAbs = (n, ok)) (hb0 : ¬ b = 0) :
   Calls Tryd.prog 14 #[.int .i64 a, .int .i64 b] w fun e w' => e = .returned (if ok then .tuple #[.int .i64 (num_signed a b n), .int .i64 0] else .tuple #[.int .i64 0, .int .i64 3]) ∧ Below w.heap.size w w' := by
  have F1 := Aside0.mk (num_Fits_yes ca)
  have F2 := Aside0.mk (num_Fits_yes cb)
  obtain ⟨ha, ha2⟩ := num_fits_le ca
  obtain ⟨hb, hb2⟩ := num_fits_le cb
  clear ca cb
  have e1 : (a.natAbs : Int) ≤ 1000000000000000000 := by omega
  have e2 : (b.natAbs : Int) ≤ 1000000000000000000 := by omega
  have e3 : (0 : Int) ≤ a.natAbs := by omega
  have e4 : (0 : Int) < b.natAbs := by omega
  have b0 : (b == 0) = false := beq_eq_false_iff_ne.2 hb0
  have hP : (0 : Int) ≤ a.natAbs * 1000000 := by omega
  have hP2 : (a.natAbs : Int) * 1000000 < 340282366920938463463374607431768211456 := by omega
  have hr := num_over_range (a.natAbs * 1000000) b.natAbs hP e4
  rw [h] at hr
  simp only at hr
  have HO := Aside0.mk h
  have HP := Aside0.mk hP
  have HP2 := Aside0.mk hP2
  have HS := Aside0.mk (show num_signed a b n = num_sg (!(decide (a < 0) == decide (b < 0))) n from rfl)
  clear h hP hP2 hb0
  cases ok
  all_goals
    try (obtain ⟨r0, r1⟩ := hr rfl)
    clear hr
    go_enter Tryd.func14, Tryd.ntmps14
    go_wp2_with (first | (go_at_call_of 22 (Value.int .i64 a); (with_reducible refine (num_Fits.calls _ true _ F1.out).mono ?_); rintro e w1 ⟨rfl, nd, rfl⟩) | (go_at_call 22; (with_reducible refine (num_Fits.calls _ true _ F2.out).mono ?_); rintro e w1 ⟨rfl, nd, rfl⟩) | (go_at_call 29; refine (num_bare_calls a b _ ha ha2 hb hb2).mono ?_; rintro e w1 ⟨rfl, rfl⟩) | (go_at_call 32; refine (num_times_calls _ _ _ e3 (by omega) (by omega) (by omega)).mono ?_; rintro e w1 ⟨rfl, hb1⟩) | (go_at_call 30; refine (num_over_any (a.natAbs * 1000000) _ _ _ _ HP.out HP2.out (by omega) (by omega) rfl rfl).mono ?_; rw [HO.out]; rintro e w2 ⟨rfl, hb2⟩))
  · go_ret2
    exact ⟨rfl, below_two hb1 hb2⟩
  · have hz := hb1.size
    simp at hz
    have hc : w1.cell? ⟨w.heap.size, 0, none⟩ = some (.bool (!(decide (a < 0) == decide (b < 0)))) := (hb1.cell (p := ⟨w.heap.size, 0, none⟩) (by simp)).trans (World.cell?_alloc_at _ _ _ _ (by simp))
    refine (num_signed_calls n (!(decide (a < 0) == decide (b < 0))) _ _ (by omega) r1 ((hb2.cell (p := ⟨w.heap.size, 0, none⟩) hz).trans hc)).mono ?_
    rw [← HS.out]
    rintro e w3 ⟨rfl, rfl⟩
    go_wp2
    go_ret2
    exact ⟨rfl, below_two hb1 hb2⟩
theorem num_Div.calls (a0 : Int) (a1 : Int) (r1 : Int) (r2 : Int) (w : World) (h : num_Div.f a0 a1 = some (r1, r2)) :
   Calls Tryd.prog 14 #[.int .i64 a0, .int .i64 a1] w fun e w' => e = .returned (.tuple #[.int .i64 r1, .int .i64 r2]) ∧ Below w.heap.size w w' := by
  unfold num_Div.f at h
  split at h
  · rename_i c1
    split at h
    · rename_i c2
      by_cases c0 : a1 = 0
      · rw [if_pos c0] at h
        obtain ⟨rfl, rfl⟩ := Prod.mk.inj (Option.some.inj h)
        have F1 := Aside0.mk (num_Fits_yes c1)
        have F2 := Aside0.mk (num_Fits_yes c2)
        have b0 : (a1 == 0) = true := beq_iff_eq.2 c0
        clear c1 c2 h c0
        go_enter Tryd.func14, Tryd.ntmps14
        go_wp2_with (first | (go_at_call_of 22 (Value.int .i64 a0); (with_reducible refine (num_Fits.calls _ true _ F1.out).mono ?_); rintro e w1 ⟨rfl, nd, rfl⟩) | (go_at_call 22; (with_reducible refine (num_Fits.calls _ true _ F2.out).mono ?_); rintro e w1 ⟨rfl, nd, rfl⟩))
        go_ret2
        exact ⟨rfl, pw_below_drewN (Below.refl _ _) _⟩
      · rw [if_neg c0] at h
        have hy := num_Div_yes a0 a1 (num_over (a0.natAbs * 1000000) a1.natAbs).1 (num_over (a0.natAbs * 1000000) a1.natAbs).2 w c1 c2 rfl c0
        split at h
        · rename_i c3
          rw [c3] at hy
          obtain ⟨rfl, rfl⟩ := Prod.mk.inj (Option.some.inj h)
          exact hy
        · rename_i c3
          rw [Bool.eq_false_iff.2 c3] at hy
          obtain ⟨rfl, rfl⟩ := Prod.mk.inj (Option.some.inj h)
          exact hy
    · rename_i c2
      obtain ⟨rfl, rfl⟩ := Prod.mk.inj (Option.some.inj h)
      have F1 := Aside0.mk (num_Fits_yes c1)
      have F2 := Aside0.mk (num_Fits_no (Bool.eq_false_iff.2 c2))
      clear c1 c2 h
      go_enter Tryd.func14, Tryd.ntmps14
      go_wp2_with (first | (go_at_call_of 22 (Value.int .i64 a0); (with_reducible refine (num_Fits.calls _ true _ F1.out).mono ?_); rintro e w1 ⟨rfl, nd, rfl⟩) | (go_at_call 22; (with_reducible refine (num_Fits.calls _ false _ F2.out).mono ?_); rintro e w1 ⟨rfl, nd, rfl⟩))
      go_ret2
      exact ⟨rfl, pw_below_drewN (Below.refl _ _) _⟩
  · rename_i c1
    obtain ⟨rfl, rfl⟩ := Prod.mk.inj (Option.some.inj h)
    have F1 := Aside0.mk (num_Fits_no (Bool.eq_false_iff.2 c1))
    clear c1 h
    go_enter Tryd.func14, Tryd.ntmps14
    go_wp2_with (go_at_call_of 22 (Value.int .i64 a0); (with_reducible refine (num_Fits.calls _ false _ F1.out).mono ?_); rintro e w1 ⟨rfl, nd, rfl⟩)
    go_ret2
    exact ⟨rfl, pw_below_drewN (Below.refl _ _) _⟩

/-- Ten to a power. -/
def num_pow (k : Nat) : Int := ((10 ^ k : Nat) : Int)
theorem num_pow_succ (k : Nat) : num_pow (k + 1) = num_pow k * 10 := by unfold num_pow; rw [Nat.pow_succ]; omega
theorem num_pow_pos (k : Nat) : 1 ≤ num_pow k := by unfold num_pow; have := Nat.pow_pos (n := k) (show 0 < 10 by decide); omega
theorem num_pow_le (k : Nat) (h : k ≤ 18) : num_pow k ≤ 1000000000000000000 := by
  unfold num_pow
  have := Nat.pow_le_pow_right (show 0 < 10 by decide) h
  omega
/-- Round, where the number and the places may be. -/
def num_round (n d : Int) : Int := num_signed n d (num_over n.natAbs d).1 * d
def num_Round.f (a0 : Int) (a1 : Int) : Option (Int × Int) :=
  if num_fits a0 = true ∧ -12 ≤ a1 ∧ a1 ≤ 6 then num_told.f (num_round a0 (num_pow (6 - a1).toNat)) else some (0, 2)
theorem num_over_small (n d : Int) (h0 : 0 ≤ n) (h1 : n ≤ 1000000000000000000) (h2 : 1 ≤ d) (h3 : d ≤ 1000000000000000000) :
    0 ≤ (num_over n d).1 ∧ (num_over n d).1 ≤ 1000000000000000000 ∧ (num_over n d).1 * d ≤ 2000000000000000000 := by
  have e : num_over n d = (wrap64 (num_up (n / d) (n % d) d), decide (num_up (n / d) (n % d) d ≤ 1000000000000000000)) := by
    unfold num_over
    rw [if_neg (by omega)]
  rw [e]
  simp only
  have hm := Int.mul_ediv_add_emod n d
  have hr0 := Int.emod_nonneg n (show d ≠ 0 by omega)
  have hr1 := Int.emod_lt_of_pos n (show 0 < d by omega)
  have hq0 : 0 ≤ n / d := Int.ediv_nonneg h0 (by omega)
  have hq2 : n / d ≤ n := Int.ediv_le_self _ h0
  have hcomm : d * (n / d) = n / d * d := Int.mul_comm _ _
  have hadd : (n / d + 1) * d = n / d * d + d := by rw [Int.add_mul]; omega
  unfold num_up
  split
  · have hlt : n / d + 1 ≤ 1000000000000000000 := by
      by_cases ht : d = 1
      · subst ht; omega
      · have hge : 2 ≤ d := by omega
        have : n / d * 2 ≤ n / d * d := Int.mul_le_mul_of_nonneg_left hge hq0
        omega
    have ew : IntKind.u64.wrap (n / d + 1) = n / d + 1 := by rw [IntKind.wrap_u64]; omega
    rw [ew, show wrap64 (n / d + 1) = n / d + 1 by unfold wrap64; omega]
    omega
  · rw [show wrap64 (n / d) = n / d by unfold wrap64; omega]
    omega
theorem num_sg_range (m : Bool) (x d B : Int) (h0 : 0 ≤ x) (h : x * d ≤ B) (ht : 0 ≤ d) : -B ≤ num_sg m x * d ∧ num_sg m x * d ≤ B := by
  have h1 : 0 ≤ x * d := Int.mul_nonneg h0 ht
  unfold num_sg
  split
  · rw [Int.neg_mul]; omega
  · omega
theorem num_Round_yes (n p r1 r2 : Int) (w : World) (ca : num_fits n = true) (p0 : -12 ≤ p) (p1 : p ≤ 6) (ht : num_told.f (num_round n (num_pow (6 - p).toNat)) = some (r1, r2)) :
   Calls Tryd.prog 10 #[.int .i64 n, .int .i64 p] w fun e w' => e = .returned (.tuple #[.int .i64 r1, .int .i64 r2]) ∧ Below w.heap.size w w' := by
  have F1 := Aside0.mk (num_Fits_yes ca)
  obtain ⟨hn, hn2⟩ := num_fits_le ca
  have HT := Aside0.mk ht
  clear ca ht
  obtain ⟨q, hq⟩ : ∃ q : Nat, 6 - p = q := ⟨(6 - p).toNat, by omega⟩
  have hq18 : q ≤ 18 := by omega
  have HQ := Aside0.mk hq
  have hq1 : 6 - p ≤ 18 := by omega
  have hq2 : 0 ≤ 6 - p := by omega
  clear hq
  go_enter Tryd.func10, Tryd.ntmps10
  go_wp2_with (go_at_call 22; (with_reducible refine (num_Fits.calls _ true _ F1.out).mono ?_); rintro e w1 ⟨rfl, nd, rfl⟩)
  go_loop [6, 25] (fun t i => ∃ k : Nat, k ≤ q ∧ i = .int .i64 k ∧ t = .int .i64 (num_pow k)) (fun _ i => q - (intOf i).toNat)
  case atStart => exact ⟨0, Nat.zero_le _, rfl, rfl⟩
  case round =>
    obtain ⟨k, hk, rfl, rfl⟩ := hrel
    have hq' := HQ.out
    by_cases hlt : k < q
    · have h1 : (k : Int) < 6 - p := by omega
      have h2 := num_pow_le (k + 1) (by omega)
      have h3 := num_pow_pos k
      have h4 := num_pow_succ k
      rw [h4] at h2
      have H4 := Aside0.mk h4
      clear h4 hq'
      go_wp2
      go_round
      case rel => exact ⟨k + 1, by omega, by go_num, by rw [H4.out]⟩
      case measure => simp [intOf]; omega
    · obtain rfl : k = q := by omega
      have h1 : ¬ (k : Int) < 6 - p := by omega
      have b2 := num_pow_le k hq18
      have b1 := num_pow_pos k
      have hto : (6 - p).toNat = k := by omega
      rw [hto] at HT
      have hnn : ((num_pow k).natAbs : Int) = num_pow k := by omega
      have hna : (n.natAbs : Int) ≤ 1000000000000000000 := by omega
      have hna0 : (0 : Int) ≤ n.natAbs := by omega
      obtain ⟨s0, s1, s2⟩ := num_over_small n.natAbs (num_pow k) hna0 hna b1 b2
      have hsg := fun m => num_sg_range m _ _ _ s0 s2 (by omega : 0 ≤ num_pow k)
      have hm := hsg (!(decide (n < 0) == decide (num_pow k < 0)))
      obtain ⟨x, hx⟩ : ∃ x, num_over n.natAbs (num_pow k) = x := ⟨_, rfl⟩
      have HR := Aside0.mk (show num_round n (num_pow k) = num_sg (!(decide (n < 0) == decide (num_pow k < 0))) x.1 * num_pow k by rw [← hx]; rfl)
      rw [hx] at s0 s1 s2 hm
      clear hsg
      have HX := Aside0.mk hx
      have HN := Aside0.mk hnn
      clear hx hnn hto hq'
      obtain ⟨x1, x2⟩ := x
      simp only at s0 s1 s2 hm HR
      generalize num_pow k = d at *
      obtain ⟨hm1, hm2⟩ := hm
      go_wp2_with (first | (go_at_call 29; refine (num_bare_calls n d _ hn hn2 (by omega) (by omega)).mono ?_; rw [HN.out]; rintro e w1 ⟨rfl, rfl⟩) | (go_at_call 30; refine (num_over_any n.natAbs _ _ d _ hna0 (by omega) (by omega) b2 (by omega) (by omega)).mono ?_; rw [HX.out]; rintro e w2 ⟨rfl, hb2⟩))
      have hz := hb2.size
      simp at hz
      have hc : w2.cell? ⟨w.heap.size, 0, none⟩ = some (.bool (!(decide (n < 0) == decide (d < 0)))) := (hb2.cell (p := ⟨w.heap.size, 0, none⟩) (by simp)).trans (World.cell?_alloc_at _ _ _ _ (by simp))
      refine (num_signed_calls x1 (!(decide (n < 0) == decide (d < 0))) _ _ (by omega) s1 hc).mono ?_
      rw [HR.out] at HT
      generalize num_sg (!(decide (n < 0) == decide (d < 0))) x1 = y at *
      rintro e w3 ⟨rfl, rfl⟩
      go_wp2_with (go_at_call 31; (with_reducible refine (num_told.calls _ r1 r2 _ HT.out).mono ?_); rintro e w4 ⟨rfl, nd4, rfl⟩)
      go_ret2
      exact ⟨rfl, pw_below_drewN (below_then ((pw_below_drewN (Below.refl _ _) _).alloc (Nat.le_refl _) _) (by simp) hb2) _⟩
theorem num_Round.calls (a0 : Int) (a1 : Int) (r1 : Int) (r2 : Int) (w : World) (h : num_Round.f a0 a1 = some (r1, r2)) :
   Calls Tryd.prog 10 #[.int .i64 a0, .int .i64 a1] w fun e w' => e = .returned (.tuple #[.int .i64 r1, .int .i64 r2]) ∧ Below w.heap.size w w' := by
  unfold num_Round.f at h
  split at h
  · rename_i c
    exact num_Round_yes a0 a1 r1 r2 w c.1 c.2.1 c.2.2 h
  · rename_i c
    obtain ⟨rfl, rfl⟩ := Prod.mk.inj (Option.some.inj h)
    clear h
    cases c1 : num_fits a0 with
    | false =>
      have F1 := Aside0.mk (num_Fits_no c1)
      clear c c1
      go_enter Tryd.func10, Tryd.ntmps10
      go_wp2_with (go_at_call 22; (with_reducible refine (num_Fits.calls _ false _ F1.out).mono ?_); rintro e w1 ⟨rfl, nd, rfl⟩)
      go_ret2
      exact ⟨rfl, pw_below_drewN (Below.refl _ _) _⟩
    | true =>
      have F1 := Aside0.mk (num_Fits_yes c1)
      have c2 : ¬ (-12 ≤ a1 ∧ a1 ≤ 6) := fun h => c ⟨c1, h⟩
      clear c c1
      by_cases c3 : a1 < -12
      · clear c2
        go_enter Tryd.func10, Tryd.ntmps10
        go_wp2_with (go_at_call 22; (with_reducible refine (num_Fits.calls _ true _ F1.out).mono ?_); rintro e w1 ⟨rfl, nd, rfl⟩)
        go_ret2
        exact ⟨rfl, pw_below_drewN (Below.refl _ _) _⟩
      · have c4 : 6 < a1 := by omega
        clear c2
        go_enter Tryd.func10, Tryd.ntmps10
        go_wp2_with (go_at_call 22; (with_reducible refine (num_Fits.calls _ true _ F1.out).mono ?_); rintro e w1 ⟨rfl, nd, rfl⟩)
        go_ret2
        exact ⟨rfl, pw_below_drewN (Below.refl _ _) _⟩
end Go.Proofs.YtdhieabmpkfdhaaDoor.Pr
