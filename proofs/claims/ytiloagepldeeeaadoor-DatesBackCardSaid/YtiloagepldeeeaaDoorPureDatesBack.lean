/-
  The law DatesBack, over texts and whole numbers alone, and the walk that follows.
-/
import Derived.Test.YtiloagepldeeeaaDoorPr16
import Derived.Test.YtiloagepldeeeaaDoorPDatesParse
import Derived.Test.YtiloagepldeeeaaDoorPDatesLives
import Derived.Test.YtiloagepldeeeaaDoorPPad
namespace Go.Proofs.YtiloagepldeeeaaDoor.Pr
set_option linter.unusedVariables false
set_option linter.unusedSimpArgs false
open Go.RowKit Go.Proofs.YtiloagepldeeeaaDoorW.PrintWords Go.Proofs.YtiloagepldeeeaaDoorW.PrintMore
theorem padL_padN (n k : Nat) (h : n < 10 ^ (k + 1)) : padL n (k + 1) = padN (k + 1) n := by
  unfold padL; exact decDigits_pad k n h
theorem datesL_dayL {y m d : Int} (h : ValidD y m d) (h0 : 1900 ≤ y) (h1 : y ≤ 9999) : datesL (dayL y m d) = (numZ y m d, 0) ∧ (dayL y m d).length = 10 := by
  have hm0 := h.m0; have hm1 := h.m1; have hd0 := h.d0; have hd1 := h.d1
  have hl := longZ_range y m
  obtain ⟨Y, rfl⟩ := Int.eq_ofNat_of_zero_le (show 0 ≤ y by omega)
  obtain ⟨M, rfl⟩ := Int.eq_ofNat_of_zero_le (show 0 ≤ m by omega)
  obtain ⟨D, rfl⟩ := Int.eq_ofNat_of_zero_le (show 0 ≤ d by omega)
  unfold dayL
  rw [Int.toNat_natCast, Int.toNat_natCast, Int.toNat_natCast, padL_padN Y 3 (by omega), padL_padN M 1 (by omega), padL_padN D 1 (by omega)]
  have ay := padN_all 4 Y; have am := padN_all 2 M; have ad := padN_all 2 D
  have vy := padN_val 4 Y; have vm := padN_val 2 M; have vd := padN_val 2 D
  obtain ⟨b0, b1, b2, b3, e1⟩ : ∃ b0 b1 b2 b3, padN 4 Y = [b0, b1, b2, b3] := ⟨_, _, _, _, rfl⟩
  obtain ⟨b5, b6, e2⟩ : ∃ b5 b6, padN 2 M = [b5, b6] := ⟨_, _, rfl⟩
  obtain ⟨b8, b9, e3⟩ : ∃ b8 b9, padN 2 D = [b8, b9] := ⟨_, _, rfl⟩
  rw [show (3 + 1 : Nat) = 4 from rfl, show (1 + 1 : Nat) = 2 from rfl, e1, e2, e3]
  rw [e1] at ay vy
  rw [e2] at am vm
  rw [e3] at ad vd
  refine ⟨?_, rfl⟩
  have hL : datesL ([b0, b1, b2, b3] ++ [45] ++ [b5, b6] ++ [45] ++ [b8, b9]) = if (45 : UInt8) = 45 ∧ (45 : UInt8) = 45 ∧ [b0, b1, b2, b3].all dg = true ∧ [b5, b6].all dg = true ∧ [b8, b9].all dg = true then dateN (dval 0 [b0, b1, b2, b3]) (dval 0 [b5, b6]) (dval 0 [b8, b9]) else (0, 5) := rfl
  rw [hL, if_pos ⟨rfl, rfl, ay, am, ad⟩, vy, vm, vd, Nat.mod_eq_of_lt (show Y < 10 ^ 4 by omega), Nat.mod_eq_of_lt (show M < 10 ^ 2 by omega), Nat.mod_eq_of_lt (show D < 10 ^ 2 by omega)]
  unfold dateN
  rw [if_neg (show ¬ ((Y : Int) < 1900 ∨ (M : Int) < 1 ∨ 12 < (M : Int) ∨ (D : Int) < 1 ∨ longZ Y M < D) by omega)]
theorem DatesBack_pure (a0 : Int) : foolscaplaw11_DatesBack.f 10 a0 = some true := by
  unfold foolscaplaw11_DatesBack.f
  rw [dates_Parts_eq, Option.bind_some]
  by_cases c : 1 ≤ a0 ∧ a0 ≤ 2958464
  · obtain ⟨y0, y1, m0, m1, d0, d1⟩ := day_range a0 c.1 c.2
    obtain ⟨hv, hn⟩ := partsZ_valid a0 c.1
    obtain ⟨hp, hlen⟩ := datesL_dayL hv y0 y1
    rw [if_pos c]
    simp only []
    rw [if_pos trivial, dates_Serial_eq 10 (by decide), Option.bind_some, serialZ_valid hv y0 y1, dates_Print_any, Option.bind_some, if_pos c]
    simp only []
    rw [dates_Parse_eq 10 (by decide), Option.bind_some, hp, hn, bl_size, hlen, dates_lives 10 (by decide)]
    simp
  · rw [if_neg c]
    simp only []
    rw [if_neg (by decide), dates_lives 10 (by decide)]
    simp
theorem DatesBack_walk (a0 : Int) (w : World) (w0 : (Lit.int .i64 a0).wf = true) (hL : Aside0 (LaidW w)) :
    Calls Tryd.prog 9 #[.int .i64 a0] w fun e w' => e = .returned (.bool true) ∧ Below w.heap.size w w' :=
  foolscaplaw11_DatesBack.calls 10 a0 true w (DatesBack_pure a0) hL
end Go.Proofs.YtiloagepldeeeaaDoor.Pr
