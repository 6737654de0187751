/-
  Lemmas for the law FAllFTable.
-/
import Derived.Test.YtopdjokncbpghaaGreatDoorSFAllFTable20
import Derived.Test.YtopdjokncbpghaaGreatDoorSFAllFTable22
import Derived.Test.YtopdjokncbpghaaGreatDoorSFAllFTable17
import Derived.Lib.ItoaLen
set_option maxHeartbeats 8000000
set_option maxRecDepth 100000
set_option linter.unusedVariables false
set_option linter.unusedSimpArgs false
section
namespace Go.Proofs.YtopdjokncbpghaaGreatDoor.Pr
open Go.RowKit Go.Proofs.YtopdjokncbpghaaGreatDoorW.PrintWords Go.Proofs.YtopdjokncbpghaaGreatDoorW.PrintLast Go.Proofs.YtopdjokncbpghaaGreatDoorW.PrintMore
theorem place_is_B (r k : Int) : place_is.f r k = some (placeB r k) := by
 unfold place_is.f placeB
 by_cases h1 : 1 ≤ r
 ·by_cases h2 : r ≤ 1048576
  ·by_cases h3 : 1 ≤ k
   ·rw [if_pos (by omega), if_pos h2, if_pos (by omega)]; simp [h1, h2, h3]
   ·rw [if_pos (by omega), if_pos h2, if_neg (by omega)]; simp [h3]
  ·rw [if_pos (by omega), if_neg h2]; simp [h2]
 ·rw [if_neg (by omega)]; simp [h1]
theorem placeB_bd {r k : Int} (h : placeB r k = true) : (1 ≤ r ∧ r ≤ 1048576) ∧ 1 ≤ k ∧ k ≤ 16384 := by
 simp only [placeB, Bool.and_eq_true, decide_eq_true_eq] at h
 omega
theorem lettersP_len (c : Int) : (lettersP c).length ≤ 3 := by
 unfold lettersP
 repeat' split
 all_goals simp
theorem place_Print_B (r k : Int) (p q : Bool) : ∃ s, place_Print.f r k p q = some (s, if placeB r k = true then 0 else 2) := by
 unfold place_Print.f
 rw [place_is_B]
 cases h : placeB r k with
 | false => exact ⟨_, rfl⟩
 | true =>
  obtain ⟨⟨h1, h2⟩, h3, h4⟩ := placeB_bd h
  have hL : ∃ s : ByteArray, s.size ≤ 3 ∧ place_Letters.f k = some (s, 0) := by
   unfold place_Letters.f
   rw [if_neg (by omega), if_neg (by omega)]
   refine ⟨_, ?_, rfl⟩
   have := lettersP_len k
   simpa [ByteArray.size] using this
  obtain ⟨s, hs, hL⟩ := hL
  have hI : ∃ t : ByteArray, t.size ≤ 21 ∧ strconv_Itoa.f r = some t := by
   unfold strconv_Itoa.f
   rw [if_pos (by omega)]
   refine ⟨_, ?_, rfl⟩
   have := Lib.itoa_length_le r (by omega) (by omega)
   simpa [ByteArray.size] using this
  obtain ⟨t, ht, hI⟩ := hI
  rw [hL, hI]
  simp only [Option.bind_some, if_true]
  have h36 : ((⟨#[36]⟩ : ByteArray)).size = 1 := rfl
  cases p <;> cases q
  all_goals
   simp only [if_true, if_false, Bool.false_eq_true]
   repeat rw [if_pos (by (try simp only [ByteArray.size_append, h36]); omega)]
   exact ⟨_, rfl⟩
abbrev ptrV (g : Nat) : Value := .pointer (some ⟨g, 0, none⟩)
def Held2 (r k : Int) (p q : Nat) (w : World) : Prop := w.heap[p]? = some (.cells #[.int .i64 r] 3 (0, 0)) ∧ w.heap[q]? = some (.cells #[.int .i64 k] 3 (0, 0))
theorem Held2.below {r k : Int} {p q : Nat} {w w1 : World} (h : Held2 r k p q w) (hb : Below w.heap.size w w1) : Held2 r k p q w1 := ⟨blk_below h.1 hb, blk_below h.2 hb⟩
end Go.Proofs.YtopdjokncbpghaaGreatDoor.Pr
end
