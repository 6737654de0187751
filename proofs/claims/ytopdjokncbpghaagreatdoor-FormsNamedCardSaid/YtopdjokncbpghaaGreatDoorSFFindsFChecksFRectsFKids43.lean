/-
  Lemmas for the law FFindsFChecksFRectsFKids.
-/
import Derived.ChangeMaps5
import Derived.ChangeSame
import Derived.Lib.SmallJoins
import Derived.ProofKit
import Derived.SizedLaws
import Derived.Test.YtopdjokncbpghaaGreatDoorProg
import Derived.WalkKit
set_option maxHeartbeats 8000000
set_option maxRecDepth 100000
set_option linter.unusedVariables false
set_option linter.unusedSimpArgs false
section
namespace Go.Proofs.YtopdjokncbpghaaGreatDoor.Args
set_option maxRecDepth 100000
open Go.ChangeShapes Go.WideShapes Go.ChangeMaps Go.Joins
section
variable {H : Type} {enc : TypeId × Value → H} {w : World} {base : Nat} {spare : Nat → Bool} {held : Bool}
def datV (H : Type) (K n : Int) (s : ByteArray) (b : Bool) (c : Int) : DataW H := .agg [.lit (.int .i64 K), .lit (.int .i64 n), .lit (.string s.data.toList), .lit (.bool b), .lit (.int .i64 c)]
theorem cells_Value : Tryz.prog.cellsOf 37 = 5 := by kernel_rfl
theorem cells_Kind : Tryz.prog.cellsOf 34 = 1 := by kernel_rfl
theorem cells_int : Tryz.prog.cellsOf 3 = 1 := by kernel_rfl
theorem cells_string : Tryz.prog.cellsOf 9 = 1 := by kernel_rfl
theorem cells_bool : Tryz.prog.cellsOf 4 = 1 := by kernel_rfl
theorem cells_Code : Tryz.prog.cellsOf 35 = 1 := by kernel_rfl
theorem maxLen_eq : maxLen = 9223372036854775807 := by decide
theorem trod_Value {fuel : Nat} {cs : List Value} {x : DataW H × List MemPlace} (h : DataW.trod enc Tryz.prog w base spare held fuel 37 cs = some x) :
  ∃ K n s b c, cs = [.int .i64 K, .int .i64 n, .string s, .bool b, .int .i64 c] ∧ x = (datV H K n s b c, []) ∧ (Lit.int .i64 K).wf = true ∧ (Lit.int .i64 n).wf = true ∧ s.size ≤ maxLen ∧ (Lit.int .i64 c).wf = true := by
 obtain ⟨xs, m, _, rfl, hl, hlen, hf⟩ := DataW.trod_struct Tryz.underlying37 h
 rw [cells_Value] at hl
 match cs, hl with
 | [c0, c1, c2, c3, c4], _ =>
  match xs, hlen with
  | [y0, y1, y2, y3, y4], _ =>
   have h0 := hf 0 _ rfl
   have h1 := hf 1 _ rfl
   have h2 := hf 2 _ rfl
   have h3 := hf 3 _ rfl
   have h4 := hf 4 _ rfl
   simp only [cells_Kind, cells_int, cells_string, cells_bool, cells_Code, List.drop, List.take, List.getElem?_cons_zero, List.getElem?_cons_succ] at h0 h1 h2 h3 h4
   obtain ⟨K, e0, rfl, w0⟩ := DataW.trod_int Tryz.underlying34 h0
   obtain ⟨n, e1, rfl, w1⟩ := DataW.trod_int Tryz.underlying3 h1
   obtain ⟨s, e2, x2, w2⟩ := DataW.trod_string Tryz.underlying9 h2
   obtain ⟨b, e3, rfl⟩ := DataW.trod_bool Tryz.underlying4 h3
   obtain ⟨c, e4, rfl, w4⟩ := DataW.trod_int Tryz.underlying35 h4
   cases e0; cases e1; cases e2; cases e3; cases e4; cases x2
   exact ⟨K, n, s, b, c, rfl, by simp [datV], w0, w1, w2, w4⟩
end
end Go.Proofs.YtopdjokncbpghaaGreatDoor.Args
end
