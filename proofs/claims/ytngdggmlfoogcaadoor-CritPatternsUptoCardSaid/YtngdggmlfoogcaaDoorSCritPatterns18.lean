/-
  What the law CritPatterns leans on, out of the texts that were printed and written for this seat: only what its proof mentions (gathered by a program of the author's).
-/
import Derived.Test.YtngdggmlfoogcaaDoorSCritPatterns16
import Derived.Test.YtngdggmlfoogcaaDoorSCritPatterns17
import Derived.Test.YtngdggmlfoogcaaDoorRows
section
namespace Go.Proofs.YtngdggmlfoogcaaDoor.Pr
set_option linter.unusedVariables false
set_option linter.unusedSimpArgs false
open Go.RowKit Go.Proofs.YtngdggmlfoogcaaDoorW.PrintWords Go.Proofs.YtngdggmlfoogcaaDoorW.PrintMore
theorem crit_lives9 : foolscaplaw13_lives.f 8100009 = some true := by decide +kernel
theorem CritPatterns_pure (a0 : ByteArray) (a1 : ByteArray) (hz : a0.size ≤ 1048576) : foolscaplaw13_CritPatterns.f 8100010 a0 a1 = some true := by
  have hz' : a0.data.toList.length ≤ 1048576 := by rw [Array.length_toList]; exact hz
  rw [← bl_of a0, ← bl_of a1]
  generalize a0.data.toList = p at hz'
  generalize a1.data.toList = s
  have hyes : foolscaplaw13_CritPatterns.j0 8100010 (bl p) (bl s) true = some true := by
    rw [show (8100010 : Nat) = 8100009 + 1 from rfl]
    simp only [foolscaplaw13_CritPatterns.j0]
    rw [if_pos (by first | trivial | rfl), crit_Wild_eq 8100009 p (by omega) (by omega), Option.bind_some, ref_Wild_eq 8100009 p (by omega) (by omega), Option.bind_some, if_pos (by rw [beq_self_eq_true]), crit_lives9]
    rfl
  unfold foolscaplaw13_CritPatterns.f
  simp only [bl_size]
  by_cases c0 : (p.length : Int) > 300
  · rw [if_pos c0]; exact hyes
  rw [if_neg c0]
  by_cases c1 : (s.length : Int) > 300
  · rw [decide_eq_true c1]; exact hyes
  rw [decide_eq_false c1, show (8100010 : Nat) = 8100009 + 1 from rfl]
  simp only [foolscaplaw13_CritPatterns.j0]
  rw [if_neg (by first | exact Bool.false_ne_true | exact not_false), crit_Like_B_eq 8100009 (by decide) p s (by omega) (by omega), Option.bind_some, ref_Like_eq 8100009 (by decide) p s (by omega) (by omega), Option.bind_some, if_pos (by rw [beq_self_eq_true]), crit_Wild_eq 8100009 p (by omega) (by omega), Option.bind_some, ref_Wild_eq 8100009 p (by omega) (by omega), Option.bind_some, if_pos (by rw [beq_self_eq_true]), crit_lives9]
  rfl
theorem CritPatterns_short {H : Type} {s t : ByteArray} (hk : Rows.uptoSmall H [.lit (.string s.data.toList), .lit (.string t.data.toList)] = true) : s.size ≤ 1048576 := by
  have h : Rows.uptoBulkAll [DataW.lit (H := H) (.string s.data.toList), DataW.lit (H := H) (.string t.data.toList)] ≤ 1048576 := of_decide_eq_true hk
  simp only [Rows.uptoBulkAll, Rows.uptoBulk] at h
  have e : s.data.toList.length = s.size := by rw [Array.length_toList]; rfl
  omega
theorem CritPatterns_walk (a0 : ByteArray) (a1 : ByteArray) (w : World) (z0 : a0.size ≤ 140737488351232) (z1 : a1.size ≤ 140737488351232) {H : Type} (hk : Rows.uptoSmall H ([.lit (.string a0.data.toList), .lit (.string a1.data.toList)] ++ []) = true) (hL : Aside0 (LaidW w)) :
    Calls Tryd.prog 3 #[.string a0, .string a1] w fun e w' => e = .returned (.bool true) ∧ Below w.heap.size w w' :=
  foolscaplaw13_CritPatterns.calls 8100010 a0 a1 true w (CritPatterns_pure a0 a1 (CritPatterns_short hk))
end Go.Proofs.YtngdggmlfoogcaaDoor.Pr
end
