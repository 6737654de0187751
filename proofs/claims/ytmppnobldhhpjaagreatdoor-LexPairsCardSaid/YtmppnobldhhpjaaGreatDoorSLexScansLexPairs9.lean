/-
  Lemmas for the law LexScansLexPairs.
-/
import Derived.Test.YtmppnobldhhpjaaGreatDoorSLexScansLexPairs4
import Derived.Below
import Derived.Laws.NewBlocks
import Derived.LoopTactic
import Derived.WalkKit
section
namespace Go.Proofs.YtmppnobldhhpjaaGreatDoor.Pr
set_option linter.unusedVariables false
set_option linter.unusedSimpArgs false
open Go.RowKit Go.Proofs.YtmppnobldhhpjaaGreatDoorW.PrintWords Go.Proofs.YtmppnobldhhpjaaGreatDoorW.PrintMore
def nm0 : ByteArray := ⟨#[]⟩
def nm1 : ByteArray := ⟨#[35, 68, 73, 86, 47, 48, 33]⟩
def nm2 : ByteArray := ⟨#[35, 86, 65, 76, 85, 69, 33]⟩
def nm3 : ByteArray := ⟨#[35, 82, 69, 70, 33]⟩
def nm4 : ByteArray := ⟨#[35, 78, 65, 77, 69, 63]⟩
def nm5 : ByteArray := ⟨#[35, 78, 85, 77, 33]⟩
def nm6 : ByteArray := ⟨#[35, 78, 47, 65]⟩
def nm7 : ByteArray := ⟨#[35, 67, 89, 67, 76, 69, 33]⟩
def namesV : Value := .agg #[.string ⟨#[]⟩, .string ⟨#[35, 68, 73, 86, 47, 48, 33]⟩, .string ⟨#[35, 86, 65, 76, 85, 69, 33]⟩, .string ⟨#[35, 82, 69, 70, 33]⟩, .string ⟨#[35, 78, 65, 77, 69, 63]⟩, .string ⟨#[35, 78, 85, 77, 33]⟩, .string ⟨#[35, 78, 47, 65]⟩, .string ⟨#[35, 67, 89, 67, 76, 69, 33]⟩]
theorem value_names.calls (w : World) :
    Calls Tryz.prog 62 #[] w fun e w' => e = .returned (.agg #[.string ⟨#[]⟩, .string ⟨#[35, 68, 73, 86, 47, 48, 33]⟩, .string ⟨#[35, 86, 65, 76, 85, 69, 33]⟩, .string ⟨#[35, 82, 69, 70, 33]⟩, .string ⟨#[35, 78, 65, 77, 69, 63]⟩, .string ⟨#[35, 78, 85, 77, 33]⟩, .string ⟨#[35, 78, 47, 65]⟩, .string ⟨#[35, 67, 89, 67, 76, 69, 33]⟩]) ∧ Below w.heap.size w w' := by
  go_enter Tryz.func62, Tryz.ntmps62
  go_wp2
  refine bodyPost_ret (v := namesV) ?_ rfl ⟨rfl, below_alloc (Below.refl _ _) _⟩
  simp [results, Tryz.results62, go_sem, namesV]
def nameZ (c : Int) : ByteArray := if c = 1 then nm1 else if c = 2 then nm2 else if c = 3 then nm3 else if c = 4 then nm4 else if c = 5 then nm5 else if c = 6 then nm6 else if c = 7 then nm7 else nm0
theorem boxed_cell {w w1 : World} {cs : Array Value} {t : TypeId} {v : Value} (hb : Below (w.alloc (.cells cs t)).heap.size (w.alloc (.cells cs t)) w1) (j : Nat) (h : cs[j]? = some v) : w1.cell? ⟨w.heap.size, j, none⟩ = some v := by
  rw [hb.cell (p := ⟨w.heap.size, j, none⟩) (by show w.heap.size < (w.heap.push _).size; simp)]
  rw [World.cell?_alloc_new]; exact h
theorem boxed_size {w w1 : World} {cs : Array Value} {t : TypeId} (hb : Below (w.alloc (.cells cs t)).heap.size (w.alloc (.cells cs t)) w1) : w.heap.size < w1.heap.size := by
  have := hb.size
  have e : (w.alloc (.cells cs t)).heap.size = w.heap.size + 1 := by show (w.heap.push _).size = _; simp
  omega
theorem boxed_below {w w1 : World} {cs : Array Value} {t : TypeId} (hb : Below (w.alloc (.cells cs t)).heap.size (w.alloc (.cells cs t)) w1) : Below w.heap.size w w1 :=
  ((Below.refl _ _).alloc (Nat.le_refl _) _).trans (hb.mono (by show _ ≤ (w.heap.push _).size; simp))
theorem boxed_trans {w w1 w2 : World} {cs : Array Value} {t : TypeId} (hb : Below (w.alloc (.cells cs t)).heap.size (w.alloc (.cells cs t)) w1) (hb2 : Below w1.heap.size w1 w2) : Below (w.alloc (.cells cs t)).heap.size (w.alloc (.cells cs t)) w2 :=
  hb.trans (hb2.mono hb.size)
theorem boxed_frozen {w w1 : World} {cs : Array Value} {t : TypeId} (hb : Below (w.alloc (.cells cs t)).heap.size (w.alloc (.cells cs t)) w1) (j : Nat) : w1.frozen? ⟨w.heap.size, j, none⟩ = false := by
  rw [hb.frozen (p := ⟨w.heap.size, j, none⟩) (by show w.heap.size < (w.heap.push _).size; simp)]
  apply World.frozen?_alloc_new
theorem set_size (w : World) (a : Addr) (v : Value) : (w.setCell a v).heap.size = w.heap.size := by unfold World.setCell; simp
end Go.Proofs.YtmppnobldhhpjaaGreatDoor.Pr
end
