/-
  The document's examples of days hold.
-/
import Derived.Test.YtiloagepldeeeaaDoorPr4
import Derived.Test.YtiloagepldeeeaaDoorPr5
import Derived.Test.YtiloagepldeeeaaDoorPr6
import Derived.Test.YtiloagepldeeeaaDoorPDatesText
namespace Go.Proofs.YtiloagepldeeeaaDoor.Pr
set_option linter.unusedVariables false
set_option linter.unusedSimpArgs false
open Go.RowKit Go.Proofs.YtiloagepldeeeaaDoorW.PrintWords Go.Proofs.YtiloagepldeeeaaDoorW.PrintMore
theorem padL_F (n w : Nat) (h : n < 10 ^ 20) : padL n w = List.replicate (w - (decF 20 n).length) 48 ++ decF 20 n := by
  unfold padL
  rw [decDigits_eq 19 n h]
theorem dayL_F (y m d : Nat) (hy : y < 10 ^ 20) (hm : m < 10 ^ 20) (hd : d < 10 ^ 20) : dayL y m d = (List.replicate (4 - (decF 20 y).length) 48 ++ decF 20 y) ++ [45] ++ (List.replicate (2 - (decF 20 m).length) 48 ++ decF 20 m) ++ [45] ++ (List.replicate (2 - (decF 20 d).length) 48 ++ decF 20 d) := by
  unfold dayL
  simp only [Int.toNat_natCast]
  rw [padL_F y 4 hy, padL_F m 2 hm, padL_F d 2 hd]
theorem dates_Print_1999 : dates_Print.f 36524 = some (bl [49, 57, 57, 57, 45, 49, 50, 45, 51, 49], 0) := by
  rw [dates_Print_any, if_pos (by decide), show partsZ 36524 = (((1999 : Nat) : Int), ((12 : Nat) : Int), ((31 : Nat) : Int)) by decide +kernel]
  simp only
  rw [dayL_F 1999 12 31 (by decide +kernel) (by decide +kernel) (by decide +kernel)]
  decide +kernel
theorem dates_Print_2024 : dates_Print.f 45350 = some (bl [50, 48, 50, 52, 45, 48, 50, 45, 50, 57], 0) := by
  rw [dates_Print_any, if_pos (by decide), show partsZ 45350 = (((2024 : Nat) : Int), ((2 : Nat) : Int), ((29 : Nat) : Int)) by decide +kernel]
  simp only
  rw [dayL_F 2024 2 29 (by decide +kernel) (by decide +kernel) (by decide +kernel)]
  decide +kernel
theorem dates_lives4 : foolscaplaw11_lives.f 4 = some true := by
  unfold foolscaplaw11_lives.f
  rw [dates_Serial_eq 4 (by decide), dates_Serial_eq 4 (by decide), show serialZ 1900 3 1 = (60, 0) by decide +kernel, show serialZ 1999 13 0 = (36524, 0) by decide +kernel, Option.bind_some, Option.bind_some, dates_Print_1999, Option.bind_some,
    show dates_Weekday.f 1 = some (2, 0) by decide +kernel, Option.bind_some,
    show dates_Parse.f 4 (⟨#[50, 48, 50, 51, 45, 48, 50, 45, 50, 57]⟩ : ByteArray) = some (0, 3) by decide +kernel, Option.bind_some,
    show dates_Parse.f 4 (⟨#[50, 48, 50, 52, 45, 48, 49, 45, 51, 49]⟩ : ByteArray) = some (45321, 0) by decide +kernel, Option.bind_some,
    show dates_Months.f 4 45321 1 = some (45350, 0) by decide +kernel, Option.bind_some, dates_Print_2024, Option.bind_some]
  simp only
  rw [bl_toList, bl_toList]
  decide +kernel
theorem dates_lives (k : Nat) (hk : 4 ≤ k) : foolscaplaw11_lives.f k = some true := by
  obtain ⟨j, rfl⟩ : ∃ j, k = 4 + j := ⟨k - 4, by omega⟩
  clear hk
  induction j with
  | zero => exact dates_lives4
  | succ j ih => exact foolscaplaw11_lives.mono _ _ ih
end Go.Proofs.YtiloagepldeeeaaDoor.Pr
