/-
  Lemmas for the law FAllFTable.
-/
import Derived.Test.YtopdjokncbpghaaGreatDoorSFAllFTable5
import Derived.Below
import Derived.Laws.IdiomStrings
import Derived.LoopN
import Derived.WalkKit
set_option maxHeartbeats 8000000
set_option maxRecDepth 100000
set_option linter.unusedVariables false
set_option linter.unusedSimpArgs false
section
namespace Go.Proofs.YtopdjokncbpghaaGreatDoor.Pr
open Go.RowKit Go.Proofs.YtopdjokncbpghaaGreatDoorW.PrintWords Go.Proofs.YtopdjokncbpghaaGreatDoorW.PrintLast Go.Proofs.YtopdjokncbpghaaGreatDoorW.PrintMore
def letB (x : Int) : UInt8 := UInt8.ofNat (65 + x).toNat
theorem letB_nat (x : Int) (h0 : 0 ≤ x) (h1 : x ≤ 25) : ((letB x).toNat : Int) = 65 + x := by
 unfold letB
 rw [UInt8.toNat_ofNat_of_lt' (by show _ < 256; omega)]
 omega
def lettersP (col : Int) : List UInt8 :=
 if (col - 1) / 26 = 0 then [letB ((col - 1) % 26)]
 else if ((col - 1) / 26 - 1) / 26 = 0 then [letB (((col - 1) / 26 - 1) % 26), letB ((col - 1) % 26)]
 else [letB ((((col - 1) / 26 - 1) / 26 - 1) % 26), letB (((col - 1) / 26 - 1) % 26), letB ((col - 1) % 26)]
def place_Letters.f (a0 : Int) : Option (ByteArray × Int) := if a0 < 1 then some ((⟨#[]⟩ : ByteArray), 2) else if a0 > 16384 then some ((⟨#[]⟩ : ByteArray), 2) else some ((⟨(lettersP a0).toArray⟩ : ByteArray), 0)
theorem letters_back {w : World} {B off : Nat} {n cap : Nat} {l : List UInt8} (hn : n = l.length) (h : ∀ j (hj : j < l.length), w.cell? ⟨B, off + j, none⟩ = some (.int .u8 (l[j].toNat : Int))) :
  (convert 150 9 (.slice (some ⟨B, off, none⟩) n cap)).run Tryz.prog w = .ok (.string ⟨l.toArray⟩) w := by
 subst hn
 exact run_convert_bytes_back w 150 9 5 ⟨B, off, none⟩ cap l Tryz.underlying150 Tryz.underlying5 Tryz.underlying9 (fun j hj => by rw [add_at]; exact h j hj)
theorem cell3 (w : World) (a b c : Value) (j : Nat) : (w.alloc (.cells #[a, b, c] 186)).cell? ⟨w.heap.size, j, none⟩ = #[a, b, c][j]? := by
 rw [show (⟨w.heap.size, j, none⟩ : Addr) = ⟨w.heap.size, j, none⟩ from rfl]
 exact blk_cell (show (w.heap.push _)[w.heap.size]? = some (.cells #[a, b, c] 186 (0, 0)) by simp) j
theorem letters1 (c : Int) (w : World) (h0 : 1 ≤ c) (h1 : c ≤ 26) :
  Calls Tryz.prog 118 #[.int .i64 c] w fun e w' => e = .returned (.tuple #[.string ⟨(lettersP c).toArray⟩, .int .i64 0]) ∧ Below w.heap.size w w' := by
 have HL := Aside0.mk (show lettersP c = [letB ((c - 1) % 26)] by unfold lettersP; rw [if_pos (by omega)])
 have hB0 := letB_nat ((c - 1) % 26) (by omega) (by omega)
 have hcv := letters_back (w := w.alloc (.cells #[.int .u8 0, .int .u8 0, .int .u8 (65 + (c - 1) % 26)] 186)) (B := w.heap.size) (off := 2) (n := 1) (cap := 1) (l := [letB ((c - 1) % 26)]) rfl (fun j hj => by
  rw [cell3]
  simp only [List.length_cons, List.length_nil] at hj
  obtain rfl : j = 0 := by omega
  exact congrArg (fun z => some (Value.int .u8 z)) hB0.symm)
 rw [← HL.out] at hcv
 clear HL hB0
 generalize lettersP c = l at hcv ⊢
 go_enter Tryz.func118, Tryz.ntmps118
 go_wp2
 refine wp_loop_rounds 2 ?_
 rw [rounds_succ]
 go_wp2
 rw [rounds_succ]
 go_wp2
 go_ret2
 exact ⟨rfl, below_alloc (Below.refl _ _) _⟩
theorem letters2 (c : Int) (w : World) (h0 : 27 ≤ c) (h1 : c ≤ 702) :
  Calls Tryz.prog 118 #[.int .i64 c] w fun e w' => e = .returned (.tuple #[.string ⟨(lettersP c).toArray⟩, .int .i64 0]) ∧ Below w.heap.size w w' := by
 have q0 : 1 ≤ (c - 1) / 26 := by omega
 have q1 : (c - 1) / 26 ≤ 26 := by omega
 have HL := Aside0.mk (show lettersP c = [letB (((c - 1) / 26 - 1) % 26), letB ((c - 1) % 26)] by unfold lettersP; rw [if_neg (by omega), if_pos (by omega)])
 have hB0 := letB_nat (((c - 1) / 26 - 1) % 26) (by omega) (by omega)
 have hB1 := letB_nat ((c - 1) % 26) (by omega) (by omega)
 have hcv := letters_back (w := w.alloc (.cells #[.int .u8 0, .int .u8 (65 + ((c - 1) / 26 - 1) % 26), .int .u8 (65 + (c - 1) % 26)] 186)) (B := w.heap.size) (off := 1) (n := 2) (cap := 2) (l := [letB (((c - 1) / 26 - 1) % 26), letB ((c - 1) % 26)]) rfl (fun j hj => by
  rw [cell3]
  simp only [List.length_cons, List.length_nil] at hj
  obtain rfl | rfl : j = 0 ∨ j = 1 := by omega
  ·exact congrArg (fun z => some (Value.int .u8 z)) hB0.symm
  ·exact congrArg (fun z => some (Value.int .u8 z)) hB1.symm)
 rw [← HL.out] at hcv
 clear HL hB0 hB1
 generalize lettersP c = l at hcv ⊢
 go_enter Tryz.func118, Tryz.ntmps118
 go_wp2
 refine wp_loop_rounds 3 ?_
 rw [rounds_succ]
 go_wp2
 rw [rounds_succ]
 go_wp2
 rw [rounds_succ]
 go_wp2
 go_ret2
 exact ⟨rfl, below_alloc (Below.refl _ _) _⟩
theorem letters3 (c : Int) (w : World) (h0 : 703 ≤ c) (h1 : c ≤ 16384) :
  Calls Tryz.prog 118 #[.int .i64 c] w fun e w' => e = .returned (.tuple #[.string ⟨(lettersP c).toArray⟩, .int .i64 0]) ∧ Below w.heap.size w w' := by
 have q0 : 27 ≤ (c - 1) / 26 := by omega
 have q1 : (c - 1) / 26 ≤ 702 := by omega
 have q2 : 1 ≤ ((c - 1) / 26 - 1) / 26 := by omega
 have q3 : ((c - 1) / 26 - 1) / 26 ≤ 26 := by omega
 have HL := Aside0.mk (show lettersP c = [letB ((((c - 1) / 26 - 1) / 26 - 1) % 26), letB (((c - 1) / 26 - 1) % 26), letB ((c - 1) % 26)] by unfold lettersP; rw [if_neg (by omega), if_neg (by omega)])
 have hB0 := letB_nat ((((c - 1) / 26 - 1) / 26 - 1) % 26) (by omega) (by omega)
 have hB1 := letB_nat (((c - 1) / 26 - 1) % 26) (by omega) (by omega)
 have hB2 := letB_nat ((c - 1) % 26) (by omega) (by omega)
 have hcv := letters_back (w := w.alloc (.cells #[.int .u8 (65 + (((c - 1) / 26 - 1) / 26 - 1) % 26), .int .u8 (65 + ((c - 1) / 26 - 1) % 26), .int .u8 (65 + (c - 1) % 26)] 186)) (B := w.heap.size) (off := 0) (n := 3) (cap := 3) (l := [letB ((((c - 1) / 26 - 1) / 26 - 1) % 26), letB (((c - 1) / 26 - 1) % 26), letB ((c - 1) % 26)]) rfl (fun j hj => by
  rw [cell3]
  simp only [List.length_cons, List.length_nil] at hj
  obtain rfl | rfl | rfl : j = 0 ∨ j = 1 ∨ j = 2 := by omega
  ·exact congrArg (fun z => some (Value.int .u8 z)) hB0.symm
  ·exact congrArg (fun z => some (Value.int .u8 z)) hB1.symm
  ·exact congrArg (fun z => some (Value.int .u8 z)) hB2.symm)
 rw [← HL.out] at hcv
 clear HL hB0 hB1 hB2
 generalize lettersP c = l at hcv ⊢
 go_enter Tryz.func118, Tryz.ntmps118
 go_wp2
 refine wp_loop_rounds 4 ?_
 rw [rounds_succ]
 go_wp2
 rw [rounds_succ]
 go_wp2
 rw [rounds_succ]
 go_wp2
 rw [rounds_succ]
 go_wp2
 go_ret2
 exact ⟨rfl, below_alloc (Below.refl _ _) _⟩
theorem letters_no (c : Int) (w : World) (h : ¬ (1 ≤ c ∧ c ≤ 16384)) :
  Calls Tryz.prog 118 #[.int .i64 c] w fun e w' => e = .returned (.tuple #[.string (⟨#[]⟩ : ByteArray), .int .i64 2]) ∧ Below w.heap.size w w' := by
 by_cases h1 : c < 1
 ·clear h
  go_enter Tryz.func118, Tryz.ntmps118
  go_wp2
  go_ret2
  exact ⟨rfl, Below.refl _ _⟩
 ·have h2 : 16384 < c := by omega
  have h3 : 1 ≤ c := by omega
  clear h h1
  go_enter Tryz.func118, Tryz.ntmps118
  go_wp2
  go_ret2
  exact ⟨rfl, Below.refl _ _⟩
theorem place_Letters.calls (a0 : Int) (r1 : ByteArray) (r2 : Int) (w : World) (h : place_Letters.f a0 = some (r1, r2)) :
  Calls Tryz.prog 118 #[.int .i64 a0] w fun e w' => e = .returned (.tuple #[.string r1, .int .i64 r2]) ∧ Below w.heap.size w w' := by
 unfold place_Letters.f at h
 by_cases h1 : a0 < 1
 ·rw [if_pos h1] at h
  obtain ⟨rfl, rfl⟩ := Prod.mk.inj (Option.some.inj h)
  exact letters_no a0 w (by omega)
 ·rw [if_neg h1] at h
  by_cases h2 : a0 > 16384
  ·rw [if_pos h2] at h
   obtain ⟨rfl, rfl⟩ := Prod.mk.inj (Option.some.inj h)
   exact letters_no a0 w (by omega)
  ·rw [if_neg h2] at h
   obtain ⟨rfl, rfl⟩ := Prod.mk.inj (Option.some.inj h)
   by_cases h3 : a0 ≤ 26
   ·exact letters1 a0 w (by omega) h3
   ·by_cases h4 : a0 ≤ 702
    ·exact letters2 a0 w (by omega) h4
    ·exact letters3 a0 w (by omega) (by omega)
end Go.Proofs.YtopdjokncbpghaaGreatDoor.Pr
end
