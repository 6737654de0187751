/-
  What the law CritMeans leans on, out of the texts that were printed and written for this seat: only what its proof mentions (gathered by a program of the author's).
-/
import Derived.ChangeMaps5
import Derived.ChangeSame
import Derived.Lib.SmallJoins
import Derived.ProofKit
import Derived.SizedLaws
import Derived.Test.YtngdggmlfoogcaaGreatDoorProg
import Derived.WalkKit
section
namespace Go.Proofs.YtngdggmlfoogcaaGreatDoor.Args
set_option linter.unusedVariables false
set_option linter.unusedSimpArgs false
set_option maxRecDepth 100000
open Go.ChangeShapes Go.WideShapes Go.ChangeMaps Go.Joins
section
variable {H : Type} {enc : TypeId × Value → H} {w : World} {base : Nat} {spare : Nat → Bool} {held : Bool}
theorem weights_le {P : Program} {ts : List TypeId} {ds : List (DataW H)} (h : (DataW.weightsEach P ts ds).all (· ≤ reachBytes) = true) {j : Nat} {t : TypeId} {d : DataW H} (ht : ts[j]? = some t) (hd : ds[j]? = some d) (n : Nat) (hn : n ∈ d.weights P t) : n ≤ 140737488351232 := by
  have hm := DataW.weights_mem_each (P := P) ht hd n hn
  have := (List.all_eq_true.mp h) n hm
  have h2 := of_decide_eq_true this
  have : reachBytes = 140737488351232 := by decide
  omega
def datV (H : Type) (K n : Int) (s : ByteArray) (b : Bool) (c : Int) : DataW H := .agg [.lit (.int .i64 K), .lit (.int .i64 n), .lit (.string s.data.toList), .lit (.bool b), .lit (.int .i64 c)]
theorem cells_Value : Tryz.prog.cellsOf 25 = 5 := by kernel_rfl
theorem cells_Kind : Tryz.prog.cellsOf 22 = 1 := by kernel_rfl
theorem cells_int : Tryz.prog.cellsOf 3 = 1 := by kernel_rfl
theorem cells_string : Tryz.prog.cellsOf 9 = 1 := by kernel_rfl
theorem cells_bool : Tryz.prog.cellsOf 4 = 1 := by kernel_rfl
theorem cells_Code : Tryz.prog.cellsOf 23 = 1 := by kernel_rfl
theorem trod_Value {fuel : Nat} {cs : List Value} {x : DataW H × List MemPlace} (h : DataW.trod enc Tryz.prog w base spare held fuel 25 cs = some x) :
    ∃ K n s b c, cs = [.int .i64 K, .int .i64 n, .string s, .bool b, .int .i64 c] ∧ x = (datV H K n s b c, []) ∧ (Lit.int .i64 K).wf = true ∧ (Lit.int .i64 n).wf = true ∧ s.size ≤ maxLen ∧ (Lit.int .i64 c).wf = true := by
  obtain ⟨xs, m, _, rfl, hl, hlen, hf⟩ := DataW.trod_struct Tryz.underlying25 h
  rw [cells_Value] at hl
  match cs, hl with
  | [c0, c1, c2, c3, c4], _ =>
    match xs, hlen with
    | [y0, y1, y2, y3, y4], _ =>
      have h0 := hf 0 _ rfl
      have h1 := hf 1 _ rfl
      have h2 := hf 2 _ rfl
      have h3 := hf 3 _ rfl
      have h4 := hf 4 _ rfl
      simp only [cells_Kind, cells_int, cells_string, cells_bool, cells_Code, List.drop, List.take, List.getElem?_cons_zero, List.getElem?_cons_succ] at h0 h1 h2 h3 h4
      obtain ⟨K, e0, rfl, w0⟩ := DataW.trod_int Tryz.underlying22 h0
      obtain ⟨n, e1, rfl, w1⟩ := DataW.trod_int Tryz.underlying3 h1
      obtain ⟨s, e2, x2, w2⟩ := DataW.trod_string Tryz.underlying9 h2
      obtain ⟨b, e3, rfl⟩ := DataW.trod_bool Tryz.underlying4 h3
      obtain ⟨c, e4, rfl, w4⟩ := DataW.trod_int Tryz.underlying23 h4
      cases e0; cases e1; cases e2; cases e3; cases e4; cases x2
      exact ⟨K, n, s, b, c, rfl, by simp [datV], w0, w1, w2, w4⟩
theorem trod_Value_mk (m : Nat) {K n : Int} {s : ByteArray} {b : Bool} {c : Int} (w0 : (Lit.int .i64 K).wf = true) (w1 : (Lit.int .i64 n).wf = true) (w2 : s.size ≤ maxLen) (w4 : (Lit.int .i64 c).wf = true) :
    DataW.trod enc Tryz.prog w base spare held (m + 2) 25 [.int .i64 K, .int .i64 n, .string s, .bool b, .int .i64 c] = some (datV H K n s b c, []) := by
  have := trod_struct_mk (enc := enc) (w := w) (base := base) (spare := spare) (held := held) (n := m + 1) (cs := [.int .i64 K, .int .i64 n, .string s, .bool b, .int .i64 c]) (xs := [(.lit (.int .i64 K), []), (.lit (.int .i64 n), []), (.lit (.string s.data.toList), []), (.lit (.bool b), []), (.lit (.int .i64 c), [])]) Tryz.underlying25 (by rw [cells_Value]; rfl)
    (by
      simp only [List.mapM_cons, List.mapM_nil, cells_Kind, cells_int, cells_string, cells_bool, cells_Code, List.drop, List.take]
      simp [DataW.trod, Tryz.underlying22, Tryz.underlying3, Tryz.underlying9, Tryz.underlying4, Tryz.underlying23, w0, w1, w2, w4])
  simpa [datV] using this
theorem weights_V (K n : Int) (s : ByteArray) (b : Bool) (c : Int) : s.data.toList.length ∈ (datV H K n s b c).weights Tryz.prog 25 := by
  unfold datV DataW.weights
  rw [Tryz.underlying25]
  simp [DataW.weightsEach, DataW.weights]
theorem open_Value {r : Reach} {b0 : Nat} {v : Value} {d : DataW H} {p : List MemPlace} (hv : Value.okWide Tryz.prog w r b0 25 v) (h : DataW.Trod enc Tryz.prog w base spare held 25 v d p) :
    ∃ K n s b c, v = .agg #[.int .i64 K, .int .i64 n, .string s, .bool b, .int .i64 c] ∧ d = datV H K n s b c ∧ p = [] ∧ (Lit.int .i64 K).wf = true ∧ (Lit.int .i64 n).wf = true ∧ s.size ≤ maxLen ∧ (Lit.int .i64 c).wf = true := by
  obtain ⟨cs, rfl, hsz⟩ := okWide_struct Tryz.underlying25 hv
  obtain ⟨fuel, hf⟩ := h
  obtain ⟨K, n, s, b, c, hc, hx, w0, w1, w2, w4⟩ := trod_Value hf
  obtain ⟨rfl, rfl⟩ := Prod.mk.inj hx
  refine ⟨K, n, s, b, c, ?_, rfl, rfl, w0, w1, w2, w4⟩
  have : cs.toList = [.int .i64 K, .int .i64 n, .string s, .bool b, .int .i64 c] := by simpa [Value.cells] using hc
  rw [← this]
theorem shut_Value {K n : Int} {s : ByteArray} {b : Bool} {c : Int} (w0 : (Lit.int .i64 K).wf = true) (w1 : (Lit.int .i64 n).wf = true) (w2 : s.size ≤ maxLen) (w4 : (Lit.int .i64 c).wf = true) :
    DataW.Trod enc Tryz.prog w base spare held 25 (.agg #[.int .i64 K, .int .i64 n, .string s, .bool b, .int .i64 c]) (datV H K n s b c) [] :=
  ⟨2, by simpa [Value.cells] using trod_Value_mk 0 w0 w1 w2 w4⟩
theorem size_V {ts : List TypeId} {K n : Int} {s : ByteArray} {b : Bool} {c : Int} {ds : List (DataW H)} (h : (DataW.weightsEach Tryz.prog ts ds).all (· ≤ reachBytes) = true) {j : Nat} (ht : ts[j]? = some 25) (hd : ds[j]? = some (datV H K n s b c)) : s.size ≤ 140737488351232 := by
  have := weights_le h ht hd _ (weights_V K n s b c)
  rw [Array.length_toList] at this
  exact this
end
end Go.Proofs.YtngdggmlfoogcaaGreatDoor.Args
end
