/-
  Lemmas for the law RFollowsRBack.
-/
import Derived.Test.YthnldbclbfpojaaGreatDoorSRFollowsRBack10
import Derived.Test.YthnldbclbfpojaaGreatDoorSRFollowsRBack18
import Derived.Test.YthnldbclbfpojaaGreatDoorSRFollowsRBack7
import Derived.Lib.ItoaLen
set_option maxHeartbeats 8000000
set_option maxRecDepth 100000
set_option linter.unusedVariables false
set_option linter.unusedSimpArgs false
section
namespace Go.Proofs.YthnldbclbfpojaaGreatDoor.Pr
open Go.RowKit Go.Proofs.YthnldbclbfpojaaGreatDoorW.PrintWords Go.Proofs.YthnldbclbfpojaaGreatDoorW.PrintLast Go.Proofs.YthnldbclbfpojaaGreatDoorW.PrintMore
theorem place_is_B (r k : Int) : place_is.f r k = some (placeB r k) := by
 unfold place_is.f placeB
 by_cases h1 : 1 ≤ r
 ·by_cases h2 : r ≤ 1048576
  ·by_cases h3 : 1 ≤ k
   ·rw [if_pos (by omega), if_pos h2, if_pos (by omega)]; simp [h1, h2, h3]
   ·rw [if_pos (by omega), if_pos h2, if_neg (by omega)]; simp [h3]
  ·rw [if_pos (by omega), if_neg h2]; simp [h2]
 ·rw [if_neg (by omega)]; simp [h1]
theorem placeB_bd {r k : Int} (h : placeB r k = true) : (1 ≤ r ∧ r ≤ 1048576) ∧ 1 ≤ k ∧ k ≤ 16384 := by
 simp only [placeB, Bool.and_eq_true, decide_eq_true_eq] at h
 omega
theorem lettersP_len (c : Int) : (lettersP c).length ≤ 3 := by
 unfold lettersP
 repeat' split
 all_goals simp
theorem place_Print_B (r k : Int) (p q : Bool) : ∃ s, place_Print.f r k p q = some (s, if placeB r k = true then 0 else 2) := by
 unfold place_Print.f
 rw [place_is_B]
 cases h : placeB r k with
 | false => exact ⟨_, rfl⟩
 | true =>
  obtain ⟨⟨h1, h2⟩, h3, h4⟩ := placeB_bd h
  have hL : ∃ s : ByteArray, s.size ≤ 3 ∧ place_Letters.f k = some (s, 0) := by
   unfold place_Letters.f
   rw [if_neg (by omega), if_neg (by omega)]
   refine ⟨_, ?_, rfl⟩
   have := lettersP_len k
   simpa [ByteArray.size] using this
  obtain ⟨s, hs, hL⟩ := hL
  have hI : ∃ t : ByteArray, t.size ≤ 21 ∧ strconv_Itoa.f r = some t := by
   unfold strconv_Itoa.f
   rw [if_pos (by omega)]
   refine ⟨_, ?_, rfl⟩
   have := Lib.itoa_length_le r (by omega) (by omega)
   simpa [ByteArray.size] using this
  obtain ⟨t, ht, hI⟩ := hI
  rw [hL, hI]
  simp only [Option.bind_some, if_true]
  have h36 : ((⟨#[36]⟩ : ByteArray)).size = 1 := rfl
  cases p <;> cases q
  all_goals
   simp only [if_true, if_false, Bool.false_eq_true]
   repeat rw [if_pos (by (try simp only [ByteArray.size_append, h36]); omega)]
   exact ⟨_, rfl⟩
abbrev ptrV (g : Nat) : Value := .pointer (some ⟨g, 0, none⟩)
def Held2 (r k : Int) (p q : Nat) (w : World) : Prop := w.heap[p]? = some (.cells #[.int .i64 r] 3 (0, 0)) ∧ w.heap[q]? = some (.cells #[.int .i64 k] 3 (0, 0))
theorem Held2.below {r k : Int} {p q : Nat} {w w1 : World} (h : Held2 r k p q w) (hb : Below w.heap.size w w1) : Held2 r k p q w1 := ⟨blk_below h.1 hb, blk_below h.2 hb⟩
theorem shifting1_calls (c : Ce) (r k : Int) (p q : Nat) (w : World) (hL0 : Aside0 (LaidW w)) (hH : Held2 r k p q w) :
  Calls Tryz.prog 55 #[.agg (cellA c), ptrV p, ptrV q] w fun e w' => e = .returned (.tuple #[.agg (cellA (slidC r k c)), .bool (cellB (slidC r k c))]) ∧ Below w.heap.size w w' := by
 have HP := Aside0.mk (place_Print_B (slidC r k c).f0.f0 (slidC r k c).f0.f1 (slidC r k c).f1 (slidC r k c).f2)
 have HD := Aside0.mk (show slidC r k c = ⟨⟨if c.f1 = true then c.f0.f0 else wrap64 (c.f0.f0 + r), if c.f2 = true then c.f0.f1 else wrap64 (c.f0.f1 + k)⟩, c.f1, c.f2⟩ from rfl)
 unfold cellB
 generalize hx : slidC r k c = x at HP HD ⊢
 obtain ⟨⟨a, b⟩, f, g⟩ := c
 obtain ⟨⟨x0, x1⟩, x2, x3⟩ := x
 simp only [S30.mk.injEq, S28.mk.injEq] at HD
 obtain ⟨⟨e0, e1⟩, e2, e3⟩ := HD.out
 subst e2
 subst e3
 clear HD hx
 obtain ⟨s, hs⟩ := HP.out
 have HS := Aside0.mk hs
 clear hs HP
 simp only at HS ⊢
 generalize placeB x0 x1 = ok at HS ⊢
 have q1 := blk_lt hH.1
 have q2 := blk_lt hH.2
 have hn1 : p ≠ w.heap.size := by omega
 have hn2 : q ≠ w.heap.size := by omega
 have hn3 : w.heap.size ≠ p := by omega
 have hn4 : w.heap.size ≠ q := by omega
 have hp := fun (o1 o2 : Obj) => (blk_cell (blk_alloc (blk_alloc hH.1 o1) o2) 0).trans (show _ = some (Value.int .i64 r) from rfl)
 have hq := fun (o1 o2 : Obj) => (blk_cell (blk_alloc (blk_alloc hH.2 o1) o2) 0).trans (show _ = some (Value.int .i64 k) from rfl)
 have HP1 := Aside0.mk hH.1
 have HQ1 := Aside0.mk hH.2
 clear hH
 cases x2 <;> cases x3
 all_goals
  simp only [Bool.false_eq_true, if_false, if_true] at e0 e1
  first | (have e0' : x0 = a := e0; subst e0') | (replace e0 := e0.symm)
  first | (have e1' : x1 = b := e1; subst e1') | (replace e1 := e1.symm)
  go_enter Tryz.func55, Tryz.ntmps55
  go_wp2_with (first
   | (go_at_call 56; (with_reducible refine (place_Print.calls _ _ _ _ _ _ _ HS.out (LaidAt hL0 (bel2 w _ _))).mono ?_); rintro e w1 ⟨rfl, hb⟩; have HB1 := Aside0.mk (below_step (bel2 w _ _) hb); have B3 := Aside0.mk (blk_below (blk_alloc (newBlk w _) _) hb); have B4 := Aside0.mk (blk_below (newBlk2 w _ _) hb); have hc := fun i => blk_cell B3.out i; clear hb)
   | ((with_reducible refine gate_store (t := 30) (p := 4) (v := .tmp 33) rfl ?_); refine wpRowSt rfl 30 (.tmp 4) (.tmp 33) rfl (w.heap.size + 1) _ rfl rfl 30 _ B4.out (by kernel_rfl) rfl rfl ?_))
  all_goals
   refine bodyPost_ret (results_ct rfl _ _ (w.heap.size + 1) 30 _ (0, 0) _ rfl (setRow_heap _ _ _ _ _ _ B4.out) Tryz.underlying30 rfl (by kernel_rfl)) rfl ?_
   exact ⟨by simp_all, rowBelow HB1.out (by omega) _⟩
end Go.Proofs.YthnldbclbfpojaaGreatDoor.Pr
end
