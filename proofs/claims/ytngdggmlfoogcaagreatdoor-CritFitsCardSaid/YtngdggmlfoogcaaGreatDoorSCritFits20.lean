/-
  What the law CritFits leans on, out of the texts that were printed and written for this seat: only what its proof mentions (gathered by a program of the author's).
-/
import Derived.Test.YtngdggmlfoogcaaGreatDoorSCritFits4
import Derived.Test.YtngdggmlfoogcaaGreatDoorSCritFits5
import Derived.Test.YtngdggmlfoogcaaGreatDoorSCritFits9
import Derived.Test.YtngdggmlfoogcaaGreatDoorSCritFits8
import Derived.Test.YtngdggmlfoogcaaGreatDoorSCritFits10
import Derived.Test.YtngdggmlfoogcaaGreatDoorSCritFits14
import Derived.Laws.BytesArg
import Derived.Lib.IndexLaws
import Derived.Lib.ItoaNum
import Derived.Lib.ParseIntB
import Derived.Lib.Repeat
import Derived.Lib.SlTrimSet
import Derived.Lib.Strings
import Derived.WalkKit
section
namespace Go.Proofs.YtngdggmlfoogcaaGreatDoor.Pr
set_option linter.unusedVariables false
def bl (l : List UInt8) : ByteArray := ⟨l.toArray⟩
theorem bl_size (a : List UInt8) : (bl a).size = a.length := by simp [bl, ByteArray.size]
theorem bl_toList (a : List UInt8) : (bl a).toList = a := by rw [Lib.toList_data]; simp [bl]
theorem bl_data (a : List UInt8) : (bl a).data.toList = a := by simp [bl]
theorem bl_of (s : ByteArray) : bl s.data.toList = s := by apply ByteArray.ext; simp [bl]
end Go.Proofs.YtngdggmlfoogcaaGreatDoor.Pr
namespace Go.Proofs.YtngdggmlfoogcaaGreatDoor.Pr
set_option linter.unusedVariables false
open Go.RowKit Go.Proofs.YtngdggmlfoogcaaGreatDoorW.PrintWords Go.Proofs.YtngdggmlfoogcaaGreatDoorW.PrintMore
end Go.Proofs.YtngdggmlfoogcaaGreatDoor.Pr
namespace Go.Proofs.YtngdggmlfoogcaaGreatDoor.Pr
set_option linter.unusedVariables false
set_option linter.unusedSimpArgs false
end Go.Proofs.YtngdggmlfoogcaaGreatDoor.Pr
namespace Go.Proofs.YtngdggmlfoogcaaGreatDoor.Pr
set_option linter.unusedVariables false
set_option linter.unusedSimpArgs false
end Go.Proofs.YtngdggmlfoogcaaGreatDoor.Pr
namespace Go.Proofs.YtngdggmlfoogcaaGreatDoor.Pr
set_option linter.unusedVariables false
set_option linter.unusedSimpArgs false
open Go.RowKit Go.Proofs.YtngdggmlfoogcaaGreatDoorW.PrintWords Go.Proofs.YtngdggmlfoogcaaGreatDoorW.PrintMore
theorem wN {a : Int} (h0 : -9223372036854775808 ≤ a) (h1 : a ≤ 9223372036854775807) : wrap64 a = a := by unfold wrap64; omega
end Go.Proofs.YtngdggmlfoogcaaGreatDoor.Pr
namespace Go.Proofs.YtngdggmlfoogcaaGreatDoor.Pr
set_option linter.unusedVariables false
set_option linter.unusedSimpArgs false
open Go.RowKit Go.Proofs.YtngdggmlfoogcaaGreatDoorW.PrintWords Go.Proofs.YtngdggmlfoogcaaGreatDoorW.PrintMore
def p10 (n : Nat) : Nat := 10 ^ n
end Go.Proofs.YtngdggmlfoogcaaGreatDoor.Pr
namespace Go.Proofs.YtngdggmlfoogcaaGreatDoor.Pr
set_option linter.unusedVariables false
set_option linter.unusedSimpArgs false
open Go.RowKit Go.Proofs.YtngdggmlfoogcaaGreatDoorW.PrintWords Go.Proofs.YtngdggmlfoogcaaGreatDoorW.PrintMore
def fitB (n : Int) : Bool := decide (-1000000000000000000 ≤ n ∧ n ≤ 1000000000000000000)
theorem num_Fits_fit (n : Int) : num_Fits.f n = some (fitB n) := by
  unfold num_Fits.f fitB
  by_cases c : n ≥ -1000000000000000000
  · rw [if_pos c]; congr 1; rw [decide_eq_decide]; omega
  · rw [if_neg c]; congr 1; exact (decide_eq_false (by omega)).symm
theorem ref01_Fits_fit (n : Int) : foolscapref01_Fits.f n = some (fitB n) := num_Fits_fit n
end Go.Proofs.YtngdggmlfoogcaaGreatDoor.Pr
end
