/-
  Lemmas for the law FAllFTable.
-/
import Derived.Test.YtopdjokncbpghaaGreatDoorSFAllFTable20
import Derived.Test.YtopdjokncbpghaaGreatDoorSFAllFTable22
import Derived.Test.YtopdjokncbpghaaGreatDoorSFAllFTable30
set_option maxHeartbeats 8000000
set_option maxRecDepth 100000
set_option linter.unusedVariables false
set_option linter.unusedSimpArgs false
section
namespace Go.Proofs.YtopdjokncbpghaaGreatDoor.Pr
open Go.RowKit Go.Proofs.YtopdjokncbpghaaGreatDoorW.PrintWords Go.Proofs.YtopdjokncbpghaaGreatDoorW.PrintLast Go.Proofs.YtopdjokncbpghaaGreatDoorW.PrintMore
def IdxPost (l : List Nd) (b : Nd → Bool) (w : World) (e : Ending) (w' : World) : Prop := ∃ i : Int, e = .returned (.int .i64 i) ∧ decide (0 ≤ i) = l.any b ∧ -1 ≤ i ∧ i ≤ l.length ∧ Below w.heap.size w w'
def TestsKids (f : Nat) (l : List Nd) (b : Nd → Bool) (w : World) : Prop := ∀ (k : Nat) (hk : k < l.length) (A : Option Addr) (c : Nat) (W : World), Below w.heap.size w W → KidsC W A c (l[k]).f5 → Calls Tryz.prog f #[nodeV l[k] A c] W fun e w' => e = .returned (.bool (b l[k])) ∧ Below W.heap.size W w'
theorem IndexFunc_calls (l : List Nd) (b : Nd → Bool) (A : Option Addr) (c : Nat) (w : World) (hK : KidsC w A c l) (hT : TestsKids 80 l b w) :
  Calls Tryz.prog 98 #[.slice A l.length c, .func (.func 80) #[] #[]] w (IdxPost l b w) := by
 obtain ⟨hlc, hC⟩ := hK
 have hmax := hC.2.1
 have HC := Aside0.mk hC
 have HT := Aside0.mk hT
 clear hC hT
 go_enter Tryz.func98, Tryz.ntmps98
 go_wp2
 go_loopw [8] (fun i wr => ∃ (k : Nat), k ≤ l.length ∧ i = .int .i64 k ∧ Aside0 ((l.take k).any b = false) ∧ Aside0 (Below w.heap.size w wr)) (fun i _ => l.length - (intOf i).toNat)
 case atStart => exact ⟨0, by omega, rfl, ⟨rfl⟩, ⟨Below.refl _ _⟩⟩
 case round =>
  obtain ⟨k, hk, rfl, HX, HB⟩ := hrel
  by_cases hkl : k < l.length
  ·obtain ⟨ad, A', c', e, hK', g0, g1, g2, g3, g4, g5, g6, g7, g8, g9, g10, g11, g12, g13, g14, g15⟩ := at_kid (Kd.C_below HC.out HB.out) k hkl
   subst e
   have HCk := Aside0.mk (HT.out k hkl A' c' wr HB.out hK')
   clear hK'
   have HN := Aside0.mk (show (l.take (k + 1)).any b = b l[k] by rw [List.take_succ_eq_append_getElem hkl, List.any_append, HX.out]; simp)
   have HM := Aside0.mk (List.getElem_mem hkl)
   cases hq : b l[k] with
   | false =>
    rw [hq] at HCk HN
    clear hq
    go_wp2_with (go_at_call 80; (with_reducible refine HCk.out.mono ?_); rintro e w1 ⟨rfl, hb⟩; have HB1 := Aside0.mk hb; clear hb)
    refine ⟨⟨k + 1, by omega, by go_num, HN, ⟨below_step HB.out HB1.out⟩⟩, ?_⟩
    simp [intOf]; omega
   | true =>
    rw [hq] at HCk
    have HQ := Aside0.mk hq
    clear hq
    go_wp2_with (go_at_call 80; (with_reducible refine HCk.out.mono ?_); rintro e w1 ⟨rfl, hb⟩; have HB1 := Aside0.mk hb; clear hb)
    go_ret
    exact ⟨k, rfl, by rw [List.any_eq_true.mpr ⟨_, HM.out, HQ.out⟩]; simp, by omega, by omega, below_step HB.out HB1.out⟩
  ·have HN := Aside0.mk (show l.any b = false by have := HX.out; rwa [List.take_of_length_le (by omega)] at this)
   go_wp2
   go_ret
   exact ⟨-1, rfl, by rw [HN.out]; rfl, by omega, by omega, HB.out⟩
theorem ContainsFunc_calls (l : List Nd) (b : Nd → Bool) (A : Option Addr) (c : Nat) (w : World) (hK : KidsC w A c l) (hT : TestsKids 80 l b w) :
  Calls Tryz.prog 79 #[.slice A l.length c, .func (.func 80) #[] #[]] w fun e w' => e = .returned (.bool (l.any b)) ∧ Below w.heap.size w w' := by
 have HI := Aside0.mk (IndexFunc_calls l b A c w hK hT)
 clear hK hT
 go_enter Tryz.func79, Tryz.ntmps79
 go_wp2_with (go_at_call 98; (with_reducible refine HI.out.mono ?_); rintro e w1 ⟨i, rfl, hi, _, _, hb⟩; have HB1 := Aside0.mk hb; have HQ := Aside0.mk hi; clear hb hi)
 go_ret
 exact ⟨ret_b (by rw [← HQ.out]), HB1.out⟩
theorem right1_calls (n : Nd) (A : Option Addr) (c : Nat) (b : Bool) (w : World) (h : ∀ W, Below w.heap.size w W → Calls Tryz.prog 54 #[nodeV n A c] W fun e w' => e = .returned (.bool b) ∧ Below W.heap.size W w') :
  Calls Tryz.prog 80 #[nodeV n A c] w fun e w' => e = .returned (.bool (!b)) ∧ Below w.heap.size w w' := by
 have H := Aside0.mk h
 clear h
 go_enter Tryz.func80, Tryz.ntmps80
 go_wp2_with (go_at_call 54; (with_reducible refine (H.out _ (bel1 w _)).mono ?_); rintro e w1 ⟨rfl, hb⟩; have HB1 := Aside0.mk (below_step (bel1 w _) hb); clear hb)
 go_ret
 exact ⟨rfl, HB1.out⟩
end Go.Proofs.YtopdjokncbpghaaGreatDoor.Pr
end
