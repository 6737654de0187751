/-
  Lemmas for the law RFollowsRBack.
-/
import Derived.Test.YthnldbclbfpojaaGreatDoorSRFollowsRBack30
import Derived.Deep.RegionHeld3
set_option maxHeartbeats 8000000
set_option maxRecDepth 100000
set_option linter.unusedVariables false
set_option linter.unusedSimpArgs false
section
namespace Go.Proofs.YthnldbclbfpojaaGreatDoor.Pr
open Go.RowKit Go.Proofs.YthnldbclbfpojaaGreatDoorW.PrintWords Go.Proofs.YthnldbclbfpojaaGreatDoorW.PrintLast Go.Proofs.YthnldbclbfpojaaGreatDoorW.PrintMore
section
variable {P : Program} {ops : Array Oper} {Q : Exit → Act → World → Prop}
theorem goesV_ {oi : Oper} {N : Option Tmp} {a : Act} {w : World} {K : Act → World → Prop} {f : FuncId} {fn : Func} {xs : Array Operand} {ts : Array TypeId} (hf : P.funcs[f]? = some fn) (hname : (fn.name == "runtime.NumGoroutine") = false) (hb : fn.body.isSome = true) (x : Operand) (caps args0 args : Array Value)
  (hw : Region.wanted oi (yielded ops a.tmps) = true) (hN : oi.dst = N) (hop : oi.op = .call { callee := .value x, args := xs, argTypes := ts }) (hx : a.eval x = .func (.func f) #[] caps) (hargs : xs.map a.eval = args0) (hall : args0 ++ caps = args)
  (h : Calls P f args w fun e w' => ∃ v, e = .returned v ∧ K (a.put N v) w') : if Region.wanted oi (yielded ops a.tmps) = true then Oper.wp P oi a w K Q else K (a.put N undef) w := by
 refine call_ f args hw hN ?_ h
 have he := enters_ hf hname hb args w
 unfold execOp
 simp [hop, resolve, Deferred.ofValue, invoke, hx, hargs, hall, he]
end
def downV (b c d n i : Int) : Int := if n < b then n else if n < d then i else wrap64 (n - c)
theorem down_calls (a b c d n i : Int) (p q : Nat) (w : World) (hp : w.heap[p]? = some (.cells (edA a b c) 47 (0, 0))) (hq : w.heap[q]? = some (.cells #[.int .i64 d] 3 (0, 0))) :
  Calls Tryz.prog 115 #[.int .i64 n, .int .i64 i, ptrV p, ptrV q] w fun e w' => e = .returned (.int .i64 (downV b c d n i)) ∧ Below w.heap.size w w' := by
 have h1 := (blk_cell hp 1).trans (show _ = some (Value.int .i64 b) from rfl)
 have h2 := (blk_cell hp 2).trans (show _ = some (Value.int .i64 c) from rfl)
 have h3 := (blk_cell hq 0).trans (show _ = some (Value.int .i64 d) from rfl)
 clear hp hq
 unfold downV
 by_cases k1 : n < b
 ·rw [if_pos k1]
  go_enter Tryz.func115, Tryz.ntmps115
  go_wp2
  go_ret
  exact ⟨rfl, Below.refl _ _⟩
 by_cases k2 : n < d
 ·rw [if_neg k1, if_pos k2]
  go_enter Tryz.func115, Tryz.ntmps115
  go_wp2
  go_ret
  exact ⟨rfl, Below.refl _ _⟩
 ·rw [if_neg k1, if_neg k2]
  go_enter Tryz.func115, Tryz.ntmps115
  go_wp2
  go_ret
  exact ⟨rfl, Below.refl _ _⟩
abbrev spA (f l : Int) : Array Value := #[.int .i64 f, .int .i64 l]
def spanLeft.T14 : Bool × List (List Nat × List Nat) := (true, [([], []), ([], []), ([1], [1]), ([], []), ([3], [3]), ([0, 2, 4], [0, 2, 4]), ([], []), ([], []), ([7], [7]), ([], []), ([9], [9]), ([10], [10]), ([6, 8, 11, 5], [6, 8, 11]), ([5, 12], [5, 12]), ([13, 12, 0, 1, 2, 3, 4, 5, 6, 7, 8, 9, 10, 11, 12, 13], [13])])
def spanLeft.B14 : List Nat := [0, 0, 2, 0, 8, 31, 0, 0, 128, 0, 512, 1536, 4095, 8191, 16383]
theorem spanLeft.tab14 : rtab .any (opsOf Tryz.f98 14) = spanLeft.T14 := by kernel_rfl
theorem spanLeft.bits14 : waitsOk spanLeft.T14.2 spanLeft.B14 = true := by kernel_rfl
theorem left_off (a b c f l x y : Int) (w : World) (HI : Aside0 (move_inserts.f a b c = some true)) (HF1 : Aside0 (stepF a b c f = x)) (HF2 : Aside0 (stepF a b c l = y)) (hx : x = 2) :
  Calls Tryz.prog 98 #[.agg (spA f l), .agg (edA a b c)] w fun e w' => e = .returned (.agg (spA 0 0)) ∧ Below w.heap.size w w' := by
 go_enter Tryz.func98, Tryz.ntmps98
 go_wp2_with (first
  | (go_at_call 50; (with_reducible refine (move_inserts.calls _ _ _ _ _ HI.out).mono ?_); rintro e w1 ⟨rfl, hb⟩; have HB1 := Aside0.mk (below_step (bel3 w _ _ _) hb); have B2 := Aside0.mk (blk_below (newBlk3a w _ _ _) hb); have B3 := Aside0.mk (blk_below (newBlk3b w _ _ _) hb); have B4 := Aside0.mk (blk_below (newBlk3c w _ _ _) hb); clear hb))
 have hq := blk_lt B4.out
 go_region_held3 (fun w' => w'.cell? ⟨w.heap.size, 0, none⟩ = some (.int .i64 f) ∧ w'.cell? ⟨w.heap.size, 1, none⟩ = some (.int .i64 l)) (first | exact ⟨(blk_cell B2.out 0).trans rfl, (blk_cell B2.out 1).trans rfl⟩ | exact ⟨(blk_cell (blk_alloc B2.out _) 0).trans rfl, (blk_cell (blk_alloc B2.out _) 1).trans rfl⟩ | exact ⟨(blk_cell (blk_alloc (blk_alloc B2.out _) _) 0).trans rfl, (blk_cell (blk_alloc (blk_alloc B2.out _) _) 1).trans rfl⟩) (fail)
 ·have P5 := Aside0.mk (blk_drew (blk_alloc (newBlk w1 (.cells #[.int .i64 f] 3)) (.cells #[.int .i64 l] 3)))
  have P6 := Aside0.mk (blk_drew (newBlk2 w1 (.cells #[.int .i64 f] 3) (.cells #[.int .i64 l] 3)))
  have C3 := Aside0.mk (blk_drew (blk_alloc (blk_alloc B3.out (.cells #[.int .i64 f] 3)) (.cells #[.int .i64 l] 3)))
  have C4 := Aside0.mk (blk_drew (blk_alloc (blk_alloc B4.out (.cells #[.int .i64 f] 3)) (.cells #[.int .i64 l] 3)))
  have HBW := Aside0.mk (below_drew1 (below_alloc (below_alloc HB1.out (.cells #[.int .i64 f] 3)) (.cells #[.int .i64 l] 3)))
  have hc3 := fun i => blk_cell C3.out i
  have n65 : w1.heap.size + 1 ≠ w1.heap.size := by omega
  have n56 : w1.heap.size ≠ w1.heap.size + 1 := by omega
  have n35 : w.heap.size + 1 ≠ w1.heap.size := by omega
  have n45 : w.heap.size + 2 ≠ w1.heap.size := by omega
  have n36 : w.heap.size + 1 ≠ w1.heap.size + 1 := by omega
  have n46 : w.heap.size + 2 ≠ w1.heap.size + 1 := by omega
  have HS1 := Aside0.mk fun (W : World) (h : W.heap[w1.heap.size]? = some (.cells #[.int .i64 f] 3 (0, 0))) => step_calls a b c f (w1.heap.size) 0 #[.int .i64 f] 3 W h rfl
  have HS2 := Aside0.mk fun (W : World) (h : W.heap[w1.heap.size + 1]? = some (.cells #[.int .i64 l] 3 (0, 0))) => step_calls a b c l (w1.heap.size + 1) 0 #[.int .i64 l] 3 W h rfl
  rw [HF1.out] at HS1
  rw [HF2.out] at HS2
  go_wp2_with (first
   | (go_at_call 44; (with_reducible refine (HS1.out _ P5.out).mono ?_); clear HS1; rintro e w2 ⟨rfl, hb⟩; have hbp := put_below hb; have HB2 := Aside0.mk (below_step (below_set HBW.out (show w.heap.size ≤ w1.heap.size by omega)) hbp); have Q5 := Aside0.mk (blk_below (blk_put P5.out 0 _ (cs' := #[.int .i64 (stepV a b c f)]) rfl) hbp); have Q6 := Aside0.mk (blk_below (blk_far (p := ⟨w1.heap.size, 0, none⟩) P6.out n65 _) hbp); have D3 := Aside0.mk (blk_below (blk_far (p := ⟨w1.heap.size, 0, none⟩) C3.out n35 _) hbp); have D4 := Aside0.mk (blk_below (blk_far (p := ⟨w1.heap.size, 0, none⟩) C4.out n45 _) hbp); clear hb hbp hc3; have hc3 := fun i => blk_cell D3.out i)
   | ((with_reducible refine gate_store (t := 96) (p := 4) (v := .tmp 18) rfl ?_); refine wpRowSt rfl 96 (.tmp 4) (.tmp 18) rfl (w.heap.size + 2) (spA 0 0) rfl rfl 96 _ (D4.out) (by kernel_rfl) rfl rfl ?_))
  refine bodyPost_ret (results_cell_row rfl _ _ (w.heap.size + 2) 96 (spA 0 0) (0, 0) _ rfl (setRow_heap _ _ _ _ _ _ (D4.out)) Tryz.underlying96 rfl (by kernel_rfl)) rfl ?_
  exact ⟨rfl, rowBelow HB2.out (by omega) _⟩
 ·have P5 := Aside0.mk (blk_drew (newBlk2 w1 (.cells #[.int .i64 l] 3) (.cells #[.int .i64 f] 3)))
  have P6 := Aside0.mk (blk_drew (blk_alloc (newBlk w1 (.cells #[.int .i64 l] 3)) (.cells #[.int .i64 f] 3)))
  have C3 := Aside0.mk (blk_drew (blk_alloc (blk_alloc B3.out (.cells #[.int .i64 l] 3)) (.cells #[.int .i64 f] 3)))
  have C4 := Aside0.mk (blk_drew (blk_alloc (blk_alloc B4.out (.cells #[.int .i64 l] 3)) (.cells #[.int .i64 f] 3)))
  have HBW := Aside0.mk (below_drew1 (below_alloc (below_alloc HB1.out (.cells #[.int .i64 l] 3)) (.cells #[.int .i64 f] 3)))
  have hc3 := fun i => blk_cell C3.out i
  have n65 : w1.heap.size ≠ w1.heap.size + 1 := by omega
  have n56 : w1.heap.size + 1 ≠ w1.heap.size := by omega
  have n35 : w.heap.size + 1 ≠ w1.heap.size + 1 := by omega
  have n45 : w.heap.size + 2 ≠ w1.heap.size + 1 := by omega
  have n36 : w.heap.size + 1 ≠ w1.heap.size := by omega
  have n46 : w.heap.size + 2 ≠ w1.heap.size := by omega
  have HS1 := Aside0.mk fun (W : World) (h : W.heap[w1.heap.size + 1]? = some (.cells #[.int .i64 f] 3 (0, 0))) => step_calls a b c f (w1.heap.size + 1) 0 #[.int .i64 f] 3 W h rfl
  have HS2 := Aside0.mk fun (W : World) (h : W.heap[w1.heap.size]? = some (.cells #[.int .i64 l] 3 (0, 0))) => step_calls a b c l (w1.heap.size) 0 #[.int .i64 l] 3 W h rfl
  rw [HF1.out] at HS1
  rw [HF2.out] at HS2
  go_wp2_with (first
   | (go_at_call 44; (with_reducible refine (HS1.out _ P5.out).mono ?_); clear HS1; rintro e w2 ⟨rfl, hb⟩; have hbp := put_below hb; have HB2 := Aside0.mk (below_step (below_set HBW.out (show w.heap.size ≤ w1.heap.size + 1 by omega)) hbp); have Q5 := Aside0.mk (blk_below (blk_put P5.out 0 _ (cs' := #[.int .i64 (stepV a b c f)]) rfl) hbp); have Q6 := Aside0.mk (blk_below (blk_far (p := ⟨w1.heap.size + 1, 0, none⟩) P6.out n65 _) hbp); have D3 := Aside0.mk (blk_below (blk_far (p := ⟨w1.heap.size + 1, 0, none⟩) C3.out n35 _) hbp); have D4 := Aside0.mk (blk_below (blk_far (p := ⟨w1.heap.size + 1, 0, none⟩) C4.out n45 _) hbp); clear hb hbp hc3; have hc3 := fun i => blk_cell D3.out i)
   | ((with_reducible refine gate_store (t := 96) (p := 4) (v := .tmp 18) rfl ?_); refine wpRowSt rfl 96 (.tmp 4) (.tmp 18) rfl (w.heap.size + 2) (spA 0 0) rfl rfl 96 _ (D4.out) (by kernel_rfl) rfl rfl ?_))
  refine bodyPost_ret (results_cell_row rfl _ _ (w.heap.size + 2) 96 (spA 0 0) (0, 0) _ rfl (setRow_heap _ _ _ _ _ _ (D4.out)) Tryz.underlying96 rfl (by kernel_rfl)) rfl ?_
  exact ⟨rfl, rowBelow HB2.out (by omega) _⟩
theorem left_in (a b c f l x y : Int) (w : World) (HI : Aside0 (move_inserts.f a b c = some true)) (HF1 : Aside0 (stepF a b c f = x)) (HF2 : Aside0 (stepF a b c l = y)) (hx : ¬x = 2) (hy : ¬y = 2) :
  Calls Tryz.prog 98 #[.agg (spA f l), .agg (edA a b c)] w fun e w' => e = .returned (.agg (spA (stepV a b c f) (stepV a b c l))) ∧ Below w.heap.size w w' := by
 go_enter Tryz.func98, Tryz.ntmps98
 go_wp2_with (first
  | (go_at_call 50; (with_reducible refine (move_inserts.calls _ _ _ _ _ HI.out).mono ?_); rintro e w1 ⟨rfl, hb⟩; have HB1 := Aside0.mk (below_step (bel3 w _ _ _) hb); have B2 := Aside0.mk (blk_below (newBlk3a w _ _ _) hb); have B3 := Aside0.mk (blk_below (newBlk3b w _ _ _) hb); have B4 := Aside0.mk (blk_below (newBlk3c w _ _ _) hb); clear hb))
 have hq := blk_lt B4.out
 go_region_held3 (fun w' => w'.cell? ⟨w.heap.size, 0, none⟩ = some (.int .i64 f) ∧ w'.cell? ⟨w.heap.size, 1, none⟩ = some (.int .i64 l)) (first | exact ⟨(blk_cell B2.out 0).trans rfl, (blk_cell B2.out 1).trans rfl⟩ | exact ⟨(blk_cell (blk_alloc B2.out _) 0).trans rfl, (blk_cell (blk_alloc B2.out _) 1).trans rfl⟩ | exact ⟨(blk_cell (blk_alloc (blk_alloc B2.out _) _) 0).trans rfl, (blk_cell (blk_alloc (blk_alloc B2.out _) _) 1).trans rfl⟩) (fail)
 ·have P5 := Aside0.mk (blk_drew (blk_alloc (newBlk w1 (.cells #[.int .i64 f] 3)) (.cells #[.int .i64 l] 3)))
  have P6 := Aside0.mk (blk_drew (newBlk2 w1 (.cells #[.int .i64 f] 3) (.cells #[.int .i64 l] 3)))
  have C3 := Aside0.mk (blk_drew (blk_alloc (blk_alloc B3.out (.cells #[.int .i64 f] 3)) (.cells #[.int .i64 l] 3)))
  have C4 := Aside0.mk (blk_drew (blk_alloc (blk_alloc B4.out (.cells #[.int .i64 f] 3)) (.cells #[.int .i64 l] 3)))
  have HBW := Aside0.mk (below_drew1 (below_alloc (below_alloc HB1.out (.cells #[.int .i64 f] 3)) (.cells #[.int .i64 l] 3)))
  have hc3 := fun i => blk_cell C3.out i
  have n65 : w1.heap.size + 1 ≠ w1.heap.size := by omega
  have n56 : w1.heap.size ≠ w1.heap.size + 1 := by omega
  have n35 : w.heap.size + 1 ≠ w1.heap.size := by omega
  have n45 : w.heap.size + 2 ≠ w1.heap.size := by omega
  have n36 : w.heap.size + 1 ≠ w1.heap.size + 1 := by omega
  have n46 : w.heap.size + 2 ≠ w1.heap.size + 1 := by omega
  have HS1 := Aside0.mk fun (W : World) (h : W.heap[w1.heap.size]? = some (.cells #[.int .i64 f] 3 (0, 0))) => step_calls a b c f (w1.heap.size) 0 #[.int .i64 f] 3 W h rfl
  have HS2 := Aside0.mk fun (W : World) (h : W.heap[w1.heap.size + 1]? = some (.cells #[.int .i64 l] 3 (0, 0))) => step_calls a b c l (w1.heap.size + 1) 0 #[.int .i64 l] 3 W h rfl
  rw [HF1.out] at HS1
  rw [HF2.out] at HS2
  go_wp2_with (first
   | (go_at_call 44; (with_reducible refine (HS1.out _ P5.out).mono ?_); clear HS1; rintro e w2 ⟨rfl, hb⟩; have hbp := put_below hb; have HB2 := Aside0.mk (below_step (below_set HBW.out (show w.heap.size ≤ w1.heap.size by omega)) hbp); have Q5 := Aside0.mk (blk_below (blk_put P5.out 0 _ (cs' := #[.int .i64 (stepV a b c f)]) rfl) hbp); have Q6 := Aside0.mk (blk_below (blk_far (p := ⟨w1.heap.size, 0, none⟩) P6.out n65 _) hbp); have D3 := Aside0.mk (blk_below (blk_far (p := ⟨w1.heap.size, 0, none⟩) C3.out n35 _) hbp); have D4 := Aside0.mk (blk_below (blk_far (p := ⟨w1.heap.size, 0, none⟩) C4.out n45 _) hbp); clear hb hbp hc3; have hc3 := fun i => blk_cell D3.out i)
   | (go_at_call 44; (with_reducible refine (HS2.out _ Q6.out).mono ?_); clear HS2; rintro e w3 ⟨rfl, hb⟩; have hbp := put_below hb; have HB3 := Aside0.mk (below_step (below_set HB2.out (show w.heap.size ≤ w1.heap.size + 1 by omega)) hbp); have R6 := Aside0.mk (blk_below (blk_put Q6.out 0 _ (cs' := #[.int .i64 (stepV a b c l)]) rfl) hbp); have R5 := Aside0.mk (blk_below (blk_far (p := ⟨w1.heap.size + 1, 0, none⟩) Q5.out n56 _) hbp); have E3 := Aside0.mk (blk_below (blk_far (p := ⟨w1.heap.size + 1, 0, none⟩) D3.out n36 _) hbp); have E4 := Aside0.mk (blk_below (blk_far (p := ⟨w1.heap.size + 1, 0, none⟩) D4.out n46 _) hbp); clear hb hbp hc3; have hc3 := fun i => blk_cell E3.out i; have hc5 := fun i => blk_cell R5.out i; have hc6 := fun i => blk_cell R6.out i)
   | ((with_reducible refine gate_store (t := 96) (p := 4) (v := .tmp 36) rfl ?_); refine wpRowSt rfl 96 (.tmp 4) (.tmp 36) rfl (w.heap.size + 2) (spA (stepV a b c f) (stepV a b c l)) rfl rfl 96 _ (E4.out) (by kernel_rfl) rfl rfl ?_))
  refine bodyPost_ret (results_cell_row rfl _ _ (w.heap.size + 2) 96 (spA (stepV a b c f) (stepV a b c l)) (0, 0) _ rfl (setRow_heap _ _ _ _ _ _ (E4.out)) Tryz.underlying96 rfl (by kernel_rfl)) rfl ?_
  exact ⟨rfl, rowBelow HB3.out (by omega) _⟩
 ·have P5 := Aside0.mk (blk_drew (newBlk2 w1 (.cells #[.int .i64 l] 3) (.cells #[.int .i64 f] 3)))
  have P6 := Aside0.mk (blk_drew (blk_alloc (newBlk w1 (.cells #[.int .i64 l] 3)) (.cells #[.int .i64 f] 3)))
  have C3 := Aside0.mk (blk_drew (blk_alloc (blk_alloc B3.out (.cells #[.int .i64 l] 3)) (.cells #[.int .i64 f] 3)))
  have C4 := Aside0.mk (blk_drew (blk_alloc (blk_alloc B4.out (.cells #[.int .i64 l] 3)) (.cells #[.int .i64 f] 3)))
  have HBW := Aside0.mk (below_drew1 (below_alloc (below_alloc HB1.out (.cells #[.int .i64 l] 3)) (.cells #[.int .i64 f] 3)))
  have hc3 := fun i => blk_cell C3.out i
  have n65 : w1.heap.size ≠ w1.heap.size + 1 := by omega
  have n56 : w1.heap.size + 1 ≠ w1.heap.size := by omega
  have n35 : w.heap.size + 1 ≠ w1.heap.size + 1 := by omega
  have n45 : w.heap.size + 2 ≠ w1.heap.size + 1 := by omega
  have n36 : w.heap.size + 1 ≠ w1.heap.size := by omega
  have n46 : w.heap.size + 2 ≠ w1.heap.size := by omega
  have HS1 := Aside0.mk fun (W : World) (h : W.heap[w1.heap.size + 1]? = some (.cells #[.int .i64 f] 3 (0, 0))) => step_calls a b c f (w1.heap.size + 1) 0 #[.int .i64 f] 3 W h rfl
  have HS2 := Aside0.mk fun (W : World) (h : W.heap[w1.heap.size]? = some (.cells #[.int .i64 l] 3 (0, 0))) => step_calls a b c l (w1.heap.size) 0 #[.int .i64 l] 3 W h rfl
  rw [HF1.out] at HS1
  rw [HF2.out] at HS2
  go_wp2_with (first
   | (go_at_call 44; (with_reducible refine (HS1.out _ P5.out).mono ?_); clear HS1; rintro e w2 ⟨rfl, hb⟩; have hbp := put_below hb; have HB2 := Aside0.mk (below_step (below_set HBW.out (show w.heap.size ≤ w1.heap.size + 1 by omega)) hbp); have Q5 := Aside0.mk (blk_below (blk_put P5.out 0 _ (cs' := #[.int .i64 (stepV a b c f)]) rfl) hbp); have Q6 := Aside0.mk (blk_below (blk_far (p := ⟨w1.heap.size + 1, 0, none⟩) P6.out n65 _) hbp); have D3 := Aside0.mk (blk_below (blk_far (p := ⟨w1.heap.size + 1, 0, none⟩) C3.out n35 _) hbp); have D4 := Aside0.mk (blk_below (blk_far (p := ⟨w1.heap.size + 1, 0, none⟩) C4.out n45 _) hbp); clear hb hbp hc3; have hc3 := fun i => blk_cell D3.out i)
   | (go_at_call 44; (with_reducible refine (HS2.out _ Q6.out).mono ?_); clear HS2; rintro e w3 ⟨rfl, hb⟩; have hbp := put_below hb; have HB3 := Aside0.mk (below_step (below_set HB2.out (show w.heap.size ≤ w1.heap.size by omega)) hbp); have R6 := Aside0.mk (blk_below (blk_put Q6.out 0 _ (cs' := #[.int .i64 (stepV a b c l)]) rfl) hbp); have R5 := Aside0.mk (blk_below (blk_far (p := ⟨w1.heap.size, 0, none⟩) Q5.out n56 _) hbp); have E3 := Aside0.mk (blk_below (blk_far (p := ⟨w1.heap.size, 0, none⟩) D3.out n36 _) hbp); have E4 := Aside0.mk (blk_below (blk_far (p := ⟨w1.heap.size, 0, none⟩) D4.out n46 _) hbp); clear hb hbp hc3; have hc3 := fun i => blk_cell E3.out i; have hc5 := fun i => blk_cell R5.out i; have hc6 := fun i => blk_cell R6.out i)
   | ((with_reducible refine gate_store (t := 96) (p := 4) (v := .tmp 36) rfl ?_); refine wpRowSt rfl 96 (.tmp 4) (.tmp 36) rfl (w.heap.size + 2) (spA (stepV a b c f) (stepV a b c l)) rfl rfl 96 _ (E4.out) (by kernel_rfl) rfl rfl ?_))
  refine bodyPost_ret (results_cell_row rfl _ _ (w.heap.size + 2) 96 (spA (stepV a b c f) (stepV a b c l)) (0, 0) _ rfl (setRow_heap _ _ _ _ _ _ (E4.out)) Tryz.underlying96 rfl (by kernel_rfl)) rfl ?_
  exact ⟨rfl, rowBelow HB3.out (by omega) _⟩
theorem left_clip0 (a b c f l x y m : Int) (w : World) (HI : Aside0 (move_inserts.f a b c = some true)) (HF1 : Aside0 (stepF a b c f = x)) (HF2 : Aside0 (stepF a b c l = y)) (hx : ¬x = 2) (hy : y = 2) (HM : Aside0 (move_most.f a b c = some m)) (hm : ¬wrap64 (b + c) > m) :
  Calls Tryz.prog 98 #[.agg (spA f l), .agg (edA a b c)] w fun e w' => e = .returned (.agg (spA (stepV a b c f) m)) ∧ Below w.heap.size w w' := by
 go_enter Tryz.func98, Tryz.ntmps98
 go_wp2_with (first
  | (go_at_call 50; (with_reducible refine (move_inserts.calls _ _ _ _ _ HI.out).mono ?_); rintro e w1 ⟨rfl, hb⟩; have HB1 := Aside0.mk (below_step (bel3 w _ _ _) hb); have B2 := Aside0.mk (blk_below (newBlk3a w _ _ _) hb); have B3 := Aside0.mk (blk_below (newBlk3b w _ _ _) hb); have B4 := Aside0.mk (blk_below (newBlk3c w _ _ _) hb); clear hb))
 have hq := blk_lt B4.out
 go_region_held3 (fun w' => w'.cell? ⟨w.heap.size, 0, none⟩ = some (.int .i64 f) ∧ w'.cell? ⟨w.heap.size, 1, none⟩ = some (.int .i64 l)) (first | exact ⟨(blk_cell B2.out 0).trans rfl, (blk_cell B2.out 1).trans rfl⟩ | exact ⟨(blk_cell (blk_alloc B2.out _) 0).trans rfl, (blk_cell (blk_alloc B2.out _) 1).trans rfl⟩ | exact ⟨(blk_cell (blk_alloc (blk_alloc B2.out _) _) 0).trans rfl, (blk_cell (blk_alloc (blk_alloc B2.out _) _) 1).trans rfl⟩) (fail)
 ·have P5 := Aside0.mk (blk_drew (blk_alloc (newBlk w1 (.cells #[.int .i64 f] 3)) (.cells #[.int .i64 l] 3)))
  have P6 := Aside0.mk (blk_drew (newBlk2 w1 (.cells #[.int .i64 f] 3) (.cells #[.int .i64 l] 3)))
  have C3 := Aside0.mk (blk_drew (blk_alloc (blk_alloc B3.out (.cells #[.int .i64 f] 3)) (.cells #[.int .i64 l] 3)))
  have C4 := Aside0.mk (blk_drew (blk_alloc (blk_alloc B4.out (.cells #[.int .i64 f] 3)) (.cells #[.int .i64 l] 3)))
  have HBW := Aside0.mk (below_drew1 (below_alloc (below_alloc HB1.out (.cells #[.int .i64 f] 3)) (.cells #[.int .i64 l] 3)))
  have hc3 := fun i => blk_cell C3.out i
  have n65 : w1.heap.size + 1 ≠ w1.heap.size := by omega
  have n56 : w1.heap.size ≠ w1.heap.size + 1 := by omega
  have n35 : w.heap.size + 1 ≠ w1.heap.size := by omega
  have n45 : w.heap.size + 2 ≠ w1.heap.size := by omega
  have n36 : w.heap.size + 1 ≠ w1.heap.size + 1 := by omega
  have n46 : w.heap.size + 2 ≠ w1.heap.size + 1 := by omega
  have HS1 := Aside0.mk fun (W : World) (h : W.heap[w1.heap.size]? = some (.cells #[.int .i64 f] 3 (0, 0))) => step_calls a b c f (w1.heap.size) 0 #[.int .i64 f] 3 W h rfl
  have HS2 := Aside0.mk fun (W : World) (h : W.heap[w1.heap.size + 1]? = some (.cells #[.int .i64 l] 3 (0, 0))) => step_calls a b c l (w1.heap.size + 1) 0 #[.int .i64 l] 3 W h rfl
  rw [HF1.out] at HS1
  rw [HF2.out] at HS2
  go_wp2_with (first
   | (go_at_call 44; (with_reducible refine (HS1.out _ P5.out).mono ?_); clear HS1; rintro e w2 ⟨rfl, hb⟩; have hbp := put_below hb; have HB2 := Aside0.mk (below_step (below_set HBW.out (show w.heap.size ≤ w1.heap.size by omega)) hbp); have Q5 := Aside0.mk (blk_below (blk_put P5.out 0 _ (cs' := #[.int .i64 (stepV a b c f)]) rfl) hbp); have Q6 := Aside0.mk (blk_below (blk_far (p := ⟨w1.heap.size, 0, none⟩) P6.out n65 _) hbp); have D3 := Aside0.mk (blk_below (blk_far (p := ⟨w1.heap.size, 0, none⟩) C3.out n35 _) hbp); have D4 := Aside0.mk (blk_below (blk_far (p := ⟨w1.heap.size, 0, none⟩) C4.out n45 _) hbp); clear hb hbp hc3; have hc3 := fun i => blk_cell D3.out i)
   | (go_at_call 44; (with_reducible refine (HS2.out _ Q6.out).mono ?_); clear HS2; rintro e w3 ⟨rfl, hb⟩; have hbp := put_below hb; have HB3 := Aside0.mk (below_step (below_set HB2.out (show w.heap.size ≤ w1.heap.size + 1 by omega)) hbp); have R6 := Aside0.mk (blk_below (blk_put Q6.out 0 _ (cs' := #[.int .i64 (stepV a b c l)]) rfl) hbp); have R5 := Aside0.mk (blk_below (blk_far (p := ⟨w1.heap.size + 1, 0, none⟩) Q5.out n56 _) hbp); have E3 := Aside0.mk (blk_below (blk_far (p := ⟨w1.heap.size + 1, 0, none⟩) D3.out n36 _) hbp); have E4 := Aside0.mk (blk_below (blk_far (p := ⟨w1.heap.size + 1, 0, none⟩) D4.out n46 _) hbp); clear hb hbp hc3; have hc3 := fun i => blk_cell E3.out i; have hc5 := fun i => blk_cell R5.out i; have hc6 := fun i => blk_cell R6.out i)
   | (go_at_call 70; (with_reducible refine (move_most.calls _ _ _ _ _ HM.out).mono ?_); rintro e w4 ⟨rfl, hb⟩; have HB4 := Aside0.mk (below_step HB3.out hb); have T5 := Aside0.mk (blk_below R5.out hb); have T6 := Aside0.mk (blk_below R6.out hb); have G3 := Aside0.mk (blk_below E3.out hb); have G4 := Aside0.mk (blk_below E4.out hb); clear hb hc3 hc5 hc6; have hs6 := blk_cell T6.out 0; have hf6 := blk_frozen T6.out 0; have hg3 := fun (v : Value) (i : Nat) => blk_cell (blk_far (p := ⟨w1.heap.size + 1, 0, none⟩) G3.out n36 v) i; have hg5 := fun (v : Value) (i : Nat) => blk_cell (blk_far (p := ⟨w1.heap.size + 1, 0, none⟩) T5.out n56 v) i)
   | ((with_reducible refine gate_store (t := 96) (p := 4) (v := .tmp 36) rfl ?_); refine wpRowSt rfl 96 (.tmp 4) (.tmp 36) rfl (w.heap.size + 2) (spA (stepV a b c f) m) rfl rfl 96 _ (blk_far (p := ⟨w1.heap.size + 1, 0, none⟩) G4.out n46 _) (by kernel_rfl) rfl rfl ?_))
  refine bodyPost_ret (results_cell_row rfl _ _ (w.heap.size + 2) 96 (spA (stepV a b c f) m) (0, 0) _ rfl (setRow_heap _ _ _ _ _ _ (blk_far (p := ⟨w1.heap.size + 1, 0, none⟩) G4.out n46 _)) Tryz.underlying96 rfl (by kernel_rfl)) rfl ?_
  exact ⟨rfl, rowBelow (below_set HB4.out (show w.heap.size ≤ w1.heap.size + 1 by omega)) (by omega) _⟩
 ·have P5 := Aside0.mk (blk_drew (newBlk2 w1 (.cells #[.int .i64 l] 3) (.cells #[.int .i64 f] 3)))
  have P6 := Aside0.mk (blk_drew (blk_alloc (newBlk w1 (.cells #[.int .i64 l] 3)) (.cells #[.int .i64 f] 3)))
  have C3 := Aside0.mk (blk_drew (blk_alloc (blk_alloc B3.out (.cells #[.int .i64 l] 3)) (.cells #[.int .i64 f] 3)))
  have C4 := Aside0.mk (blk_drew (blk_alloc (blk_alloc B4.out (.cells #[.int .i64 l] 3)) (.cells #[.int .i64 f] 3)))
  have HBW := Aside0.mk (below_drew1 (below_alloc (below_alloc HB1.out (.cells #[.int .i64 l] 3)) (.cells #[.int .i64 f] 3)))
  have hc3 := fun i => blk_cell C3.out i
  have n65 : w1.heap.size ≠ w1.heap.size + 1 := by omega
  have n56 : w1.heap.size + 1 ≠ w1.heap.size := by omega
  have n35 : w.heap.size + 1 ≠ w1.heap.size + 1 := by omega
  have n45 : w.heap.size + 2 ≠ w1.heap.size + 1 := by omega
  have n36 : w.heap.size + 1 ≠ w1.heap.size := by omega
  have n46 : w.heap.size + 2 ≠ w1.heap.size := by omega
  have HS1 := Aside0.mk fun (W : World) (h : W.heap[w1.heap.size + 1]? = some (.cells #[.int .i64 f] 3 (0, 0))) => step_calls a b c f (w1.heap.size + 1) 0 #[.int .i64 f] 3 W h rfl
  have HS2 := Aside0.mk fun (W : World) (h : W.heap[w1.heap.size]? = some (.cells #[.int .i64 l] 3 (0, 0))) => step_calls a b c l (w1.heap.size) 0 #[.int .i64 l] 3 W h rfl
  rw [HF1.out] at HS1
  rw [HF2.out] at HS2
  go_wp2_with (first
   | (go_at_call 44; (with_reducible refine (HS1.out _ P5.out).mono ?_); clear HS1; rintro e w2 ⟨rfl, hb⟩; have hbp := put_below hb; have HB2 := Aside0.mk (below_step (below_set HBW.out (show w.heap.size ≤ w1.heap.size + 1 by omega)) hbp); have Q5 := Aside0.mk (blk_below (blk_put P5.out 0 _ (cs' := #[.int .i64 (stepV a b c f)]) rfl) hbp); have Q6 := Aside0.mk (blk_below (blk_far (p := ⟨w1.heap.size + 1, 0, none⟩) P6.out n65 _) hbp); have D3 := Aside0.mk (blk_below (blk_far (p := ⟨w1.heap.size + 1, 0, none⟩) C3.out n35 _) hbp); have D4 := Aside0.mk (blk_below (blk_far (p := ⟨w1.heap.size + 1, 0, none⟩) C4.out n45 _) hbp); clear hb hbp hc3; have hc3 := fun i => blk_cell D3.out i)
   | (go_at_call 44; (with_reducible refine (HS2.out _ Q6.out).mono ?_); clear HS2; rintro e w3 ⟨rfl, hb⟩; have hbp := put_below hb; have HB3 := Aside0.mk (below_step (below_set HB2.out (show w.heap.size ≤ w1.heap.size by omega)) hbp); have R6 := Aside0.mk (blk_below (blk_put Q6.out 0 _ (cs' := #[.int .i64 (stepV a b c l)]) rfl) hbp); have R5 := Aside0.mk (blk_below (blk_far (p := ⟨w1.heap.size, 0, none⟩) Q5.out n56 _) hbp); have E3 := Aside0.mk (blk_below (blk_far (p := ⟨w1.heap.size, 0, none⟩) D3.out n36 _) hbp); have E4 := Aside0.mk (blk_below (blk_far (p := ⟨w1.heap.size, 0, none⟩) D4.out n46 _) hbp); clear hb hbp hc3; have hc3 := fun i => blk_cell E3.out i; have hc5 := fun i => blk_cell R5.out i; have hc6 := fun i => blk_cell R6.out i)
   | (go_at_call 70; (with_reducible refine (move_most.calls _ _ _ _ _ HM.out).mono ?_); rintro e w4 ⟨rfl, hb⟩; have HB4 := Aside0.mk (below_step HB3.out hb); have T5 := Aside0.mk (blk_below R5.out hb); have T6 := Aside0.mk (blk_below R6.out hb); have G3 := Aside0.mk (blk_below E3.out hb); have G4 := Aside0.mk (blk_below E4.out hb); clear hb hc3 hc5 hc6; have hs6 := blk_cell T6.out 0; have hf6 := blk_frozen T6.out 0; have hg3 := fun (v : Value) (i : Nat) => blk_cell (blk_far (p := ⟨w1.heap.size, 0, none⟩) G3.out n36 v) i; have hg5 := fun (v : Value) (i : Nat) => blk_cell (blk_far (p := ⟨w1.heap.size, 0, none⟩) T5.out n56 v) i)
   | ((with_reducible refine gate_store (t := 96) (p := 4) (v := .tmp 36) rfl ?_); refine wpRowSt rfl 96 (.tmp 4) (.tmp 36) rfl (w.heap.size + 2) (spA (stepV a b c f) m) rfl rfl 96 _ (blk_far (p := ⟨w1.heap.size, 0, none⟩) G4.out n46 _) (by kernel_rfl) rfl rfl ?_))
  refine bodyPost_ret (results_cell_row rfl _ _ (w.heap.size + 2) 96 (spA (stepV a b c f) m) (0, 0) _ rfl (setRow_heap _ _ _ _ _ _ (blk_far (p := ⟨w1.heap.size, 0, none⟩) G4.out n46 _)) Tryz.underlying96 rfl (by kernel_rfl)) rfl ?_
  exact ⟨rfl, rowBelow (below_set HB4.out (show w.heap.size ≤ w1.heap.size by omega)) (by omega) _⟩
theorem left_clip1 (a b c f l x y m : Int) (w : World) (HI : Aside0 (move_inserts.f a b c = some true)) (HF1 : Aside0 (stepF a b c f = x)) (HF2 : Aside0 (stepF a b c l = y)) (hx : ¬x = 2) (hy : y = 2) (HM : Aside0 (move_most.f a b c = some m)) (hm : wrap64 (b + c) > m) :
  Calls Tryz.prog 98 #[.agg (spA f l), .agg (edA a b c)] w fun e w' => e = .returned (.agg (spA (stepV a b c f) (wrap64 (b - 1)))) ∧ Below w.heap.size w w' := by
 go_enter Tryz.func98, Tryz.ntmps98
 go_wp2_with (first
  | (go_at_call 50; (with_reducible refine (move_inserts.calls _ _ _ _ _ HI.out).mono ?_); rintro e w1 ⟨rfl, hb⟩; have HB1 := Aside0.mk (below_step (bel3 w _ _ _) hb); have B2 := Aside0.mk (blk_below (newBlk3a w _ _ _) hb); have B3 := Aside0.mk (blk_below (newBlk3b w _ _ _) hb); have B4 := Aside0.mk (blk_below (newBlk3c w _ _ _) hb); clear hb))
 have hq := blk_lt B4.out
 go_region_held3 (fun w' => w'.cell? ⟨w.heap.size, 0, none⟩ = some (.int .i64 f) ∧ w'.cell? ⟨w.heap.size, 1, none⟩ = some (.int .i64 l)) (first | exact ⟨(blk_cell B2.out 0).trans rfl, (blk_cell B2.out 1).trans rfl⟩ | exact ⟨(blk_cell (blk_alloc B2.out _) 0).trans rfl, (blk_cell (blk_alloc B2.out _) 1).trans rfl⟩ | exact ⟨(blk_cell (blk_alloc (blk_alloc B2.out _) _) 0).trans rfl, (blk_cell (blk_alloc (blk_alloc B2.out _) _) 1).trans rfl⟩) (fail)
 ·have P5 := Aside0.mk (blk_drew (blk_alloc (newBlk w1 (.cells #[.int .i64 f] 3)) (.cells #[.int .i64 l] 3)))
  have P6 := Aside0.mk (blk_drew (newBlk2 w1 (.cells #[.int .i64 f] 3) (.cells #[.int .i64 l] 3)))
  have C3 := Aside0.mk (blk_drew (blk_alloc (blk_alloc B3.out (.cells #[.int .i64 f] 3)) (.cells #[.int .i64 l] 3)))
  have C4 := Aside0.mk (blk_drew (blk_alloc (blk_alloc B4.out (.cells #[.int .i64 f] 3)) (.cells #[.int .i64 l] 3)))
  have HBW := Aside0.mk (below_drew1 (below_alloc (below_alloc HB1.out (.cells #[.int .i64 f] 3)) (.cells #[.int .i64 l] 3)))
  have hc3 := fun i => blk_cell C3.out i
  have n65 : w1.heap.size + 1 ≠ w1.heap.size := by omega
  have n56 : w1.heap.size ≠ w1.heap.size + 1 := by omega
  have n35 : w.heap.size + 1 ≠ w1.heap.size := by omega
  have n45 : w.heap.size + 2 ≠ w1.heap.size := by omega
  have n36 : w.heap.size + 1 ≠ w1.heap.size + 1 := by omega
  have n46 : w.heap.size + 2 ≠ w1.heap.size + 1 := by omega
  have HS1 := Aside0.mk fun (W : World) (h : W.heap[w1.heap.size]? = some (.cells #[.int .i64 f] 3 (0, 0))) => step_calls a b c f (w1.heap.size) 0 #[.int .i64 f] 3 W h rfl
  have HS2 := Aside0.mk fun (W : World) (h : W.heap[w1.heap.size + 1]? = some (.cells #[.int .i64 l] 3 (0, 0))) => step_calls a b c l (w1.heap.size + 1) 0 #[.int .i64 l] 3 W h rfl
  rw [HF1.out] at HS1
  rw [HF2.out] at HS2
  go_wp2_with (first
   | (go_at_call 44; (with_reducible refine (HS1.out _ P5.out).mono ?_); clear HS1; rintro e w2 ⟨rfl, hb⟩; have hbp := put_below hb; have HB2 := Aside0.mk (below_step (below_set HBW.out (show w.heap.size ≤ w1.heap.size by omega)) hbp); have Q5 := Aside0.mk (blk_below (blk_put P5.out 0 _ (cs' := #[.int .i64 (stepV a b c f)]) rfl) hbp); have Q6 := Aside0.mk (blk_below (blk_far (p := ⟨w1.heap.size, 0, none⟩) P6.out n65 _) hbp); have D3 := Aside0.mk (blk_below (blk_far (p := ⟨w1.heap.size, 0, none⟩) C3.out n35 _) hbp); have D4 := Aside0.mk (blk_below (blk_far (p := ⟨w1.heap.size, 0, none⟩) C4.out n45 _) hbp); clear hb hbp hc3; have hc3 := fun i => blk_cell D3.out i)
   | (go_at_call 44; (with_reducible refine (HS2.out _ Q6.out).mono ?_); clear HS2; rintro e w3 ⟨rfl, hb⟩; have hbp := put_below hb; have HB3 := Aside0.mk (below_step (below_set HB2.out (show w.heap.size ≤ w1.heap.size + 1 by omega)) hbp); have R6 := Aside0.mk (blk_below (blk_put Q6.out 0 _ (cs' := #[.int .i64 (stepV a b c l)]) rfl) hbp); have R5 := Aside0.mk (blk_below (blk_far (p := ⟨w1.heap.size + 1, 0, none⟩) Q5.out n56 _) hbp); have E3 := Aside0.mk (blk_below (blk_far (p := ⟨w1.heap.size + 1, 0, none⟩) D3.out n36 _) hbp); have E4 := Aside0.mk (blk_below (blk_far (p := ⟨w1.heap.size + 1, 0, none⟩) D4.out n46 _) hbp); clear hb hbp hc3; have hc3 := fun i => blk_cell E3.out i; have hc5 := fun i => blk_cell R5.out i; have hc6 := fun i => blk_cell R6.out i)
   | (go_at_call 70; (with_reducible refine (move_most.calls _ _ _ _ _ HM.out).mono ?_); rintro e w4 ⟨rfl, hb⟩; have HB4 := Aside0.mk (below_step HB3.out hb); have T5 := Aside0.mk (blk_below R5.out hb); have T6 := Aside0.mk (blk_below R6.out hb); have G3 := Aside0.mk (blk_below E3.out hb); have G4 := Aside0.mk (blk_below E4.out hb); clear hb hc3 hc5 hc6; have hs6 := blk_cell T6.out 0; have hf6 := blk_frozen T6.out 0; have hg3 := fun (v : Value) (i : Nat) => blk_cell (blk_far (p := ⟨w1.heap.size + 1, 0, none⟩) G3.out n36 v) i; have hg5 := fun (v : Value) (i : Nat) => blk_cell (blk_far (p := ⟨w1.heap.size + 1, 0, none⟩) T5.out n56 v) i)
   | ((with_reducible refine gate_store (t := 96) (p := 4) (v := .tmp 36) rfl ?_); refine wpRowSt rfl 96 (.tmp 4) (.tmp 36) rfl (w.heap.size + 2) (spA (stepV a b c f) (wrap64 (b - 1))) rfl rfl 96 _ (blk_far (p := ⟨w1.heap.size + 1, 0, none⟩) (blk_far (p := ⟨w1.heap.size + 1, 0, none⟩) G4.out n46 _) n46 _) (by kernel_rfl) rfl rfl ?_))
  refine bodyPost_ret (results_cell_row rfl _ _ (w.heap.size + 2) 96 (spA (stepV a b c f) (wrap64 (b - 1))) (0, 0) _ rfl (setRow_heap _ _ _ _ _ _ (blk_far (p := ⟨w1.heap.size + 1, 0, none⟩) (blk_far (p := ⟨w1.heap.size + 1, 0, none⟩) G4.out n46 _) n46 _)) Tryz.underlying96 rfl (by kernel_rfl)) rfl ?_
  exact ⟨rfl, rowBelow (below_set (below_set HB4.out (show w.heap.size ≤ w1.heap.size + 1 by omega)) (show w.heap.size ≤ w1.heap.size + 1 by omega)) (by omega) _⟩
 ·have P5 := Aside0.mk (blk_drew (newBlk2 w1 (.cells #[.int .i64 l] 3) (.cells #[.int .i64 f] 3)))
  have P6 := Aside0.mk (blk_drew (blk_alloc (newBlk w1 (.cells #[.int .i64 l] 3)) (.cells #[.int .i64 f] 3)))
  have C3 := Aside0.mk (blk_drew (blk_alloc (blk_alloc B3.out (.cells #[.int .i64 l] 3)) (.cells #[.int .i64 f] 3)))
  have C4 := Aside0.mk (blk_drew (blk_alloc (blk_alloc B4.out (.cells #[.int .i64 l] 3)) (.cells #[.int .i64 f] 3)))
  have HBW := Aside0.mk (below_drew1 (below_alloc (below_alloc HB1.out (.cells #[.int .i64 l] 3)) (.cells #[.int .i64 f] 3)))
  have hc3 := fun i => blk_cell C3.out i
  have n65 : w1.heap.size ≠ w1.heap.size + 1 := by omega
  have n56 : w1.heap.size + 1 ≠ w1.heap.size := by omega
  have n35 : w.heap.size + 1 ≠ w1.heap.size + 1 := by omega
  have n45 : w.heap.size + 2 ≠ w1.heap.size + 1 := by omega
  have n36 : w.heap.size + 1 ≠ w1.heap.size := by omega
  have n46 : w.heap.size + 2 ≠ w1.heap.size := by omega
  have HS1 := Aside0.mk fun (W : World) (h : W.heap[w1.heap.size + 1]? = some (.cells #[.int .i64 f] 3 (0, 0))) => step_calls a b c f (w1.heap.size + 1) 0 #[.int .i64 f] 3 W h rfl
  have HS2 := Aside0.mk fun (W : World) (h : W.heap[w1.heap.size]? = some (.cells #[.int .i64 l] 3 (0, 0))) => step_calls a b c l (w1.heap.size) 0 #[.int .i64 l] 3 W h rfl
  rw [HF1.out] at HS1
  rw [HF2.out] at HS2
  go_wp2_with (first
   | (go_at_call 44; (with_reducible refine (HS1.out _ P5.out).mono ?_); clear HS1; rintro e w2 ⟨rfl, hb⟩; have hbp := put_below hb; have HB2 := Aside0.mk (below_step (below_set HBW.out (show w.heap.size ≤ w1.heap.size + 1 by omega)) hbp); have Q5 := Aside0.mk (blk_below (blk_put P5.out 0 _ (cs' := #[.int .i64 (stepV a b c f)]) rfl) hbp); have Q6 := Aside0.mk (blk_below (blk_far (p := ⟨w1.heap.size + 1, 0, none⟩) P6.out n65 _) hbp); have D3 := Aside0.mk (blk_below (blk_far (p := ⟨w1.heap.size + 1, 0, none⟩) C3.out n35 _) hbp); have D4 := Aside0.mk (blk_below (blk_far (p := ⟨w1.heap.size + 1, 0, none⟩) C4.out n45 _) hbp); clear hb hbp hc3; have hc3 := fun i => blk_cell D3.out i)
   | (go_at_call 44; (with_reducible refine (HS2.out _ Q6.out).mono ?_); clear HS2; rintro e w3 ⟨rfl, hb⟩; have hbp := put_below hb; have HB3 := Aside0.mk (below_step (below_set HB2.out (show w.heap.size ≤ w1.heap.size by omega)) hbp); have R6 := Aside0.mk (blk_below (blk_put Q6.out 0 _ (cs' := #[.int .i64 (stepV a b c l)]) rfl) hbp); have R5 := Aside0.mk (blk_below (blk_far (p := ⟨w1.heap.size, 0, none⟩) Q5.out n56 _) hbp); have E3 := Aside0.mk (blk_below (blk_far (p := ⟨w1.heap.size, 0, none⟩) D3.out n36 _) hbp); have E4 := Aside0.mk (blk_below (blk_far (p := ⟨w1.heap.size, 0, none⟩) D4.out n46 _) hbp); clear hb hbp hc3; have hc3 := fun i => blk_cell E3.out i; have hc5 := fun i => blk_cell R5.out i; have hc6 := fun i => blk_cell R6.out i)
   | (go_at_call 70; (with_reducible refine (move_most.calls _ _ _ _ _ HM.out).mono ?_); rintro e w4 ⟨rfl, hb⟩; have HB4 := Aside0.mk (below_step HB3.out hb); have T5 := Aside0.mk (blk_below R5.out hb); have T6 := Aside0.mk (blk_below R6.out hb); have G3 := Aside0.mk (blk_below E3.out hb); have G4 := Aside0.mk (blk_below E4.out hb); clear hb hc3 hc5 hc6; have hs6 := blk_cell T6.out 0; have hf6 := blk_frozen T6.out 0; have hg3 := fun (v : Value) (i : Nat) => blk_cell (blk_far (p := ⟨w1.heap.size, 0, none⟩) G3.out n36 v) i; have hg5 := fun (v : Value) (i : Nat) => blk_cell (blk_far (p := ⟨w1.heap.size, 0, none⟩) T5.out n56 v) i)
   | ((with_reducible refine gate_store (t := 96) (p := 4) (v := .tmp 36) rfl ?_); refine wpRowSt rfl 96 (.tmp 4) (.tmp 36) rfl (w.heap.size + 2) (spA (stepV a b c f) (wrap64 (b - 1))) rfl rfl 96 _ (blk_far (p := ⟨w1.heap.size, 0, none⟩) (blk_far (p := ⟨w1.heap.size, 0, none⟩) G4.out n46 _) n46 _) (by kernel_rfl) rfl rfl ?_))
  refine bodyPost_ret (results_cell_row rfl _ _ (w.heap.size + 2) 96 (spA (stepV a b c f) (wrap64 (b - 1))) (0, 0) _ rfl (setRow_heap _ _ _ _ _ _ (blk_far (p := ⟨w1.heap.size, 0, none⟩) (blk_far (p := ⟨w1.heap.size, 0, none⟩) G4.out n46 _) n46 _)) Tryz.underlying96 rfl (by kernel_rfl)) rfl ?_
  exact ⟨rfl, rowBelow (below_set (below_set HB4.out (show w.heap.size ≤ w1.heap.size by omega)) (show w.heap.size ≤ w1.heap.size by omega)) (by omega) _⟩
theorem left_gone (a b c f l : Int) (w : World) (HI : Aside0 (move_inserts.f a b c = some false)) (h1 : b ≤ f) (h2 : l < wrap64 (b + c)) :
  Calls Tryz.prog 98 #[.agg (spA f l), .agg (edA a b c)] w fun e w' => e = .returned (.agg (spA 0 0)) ∧ Below w.heap.size w w' := by
 go_enter Tryz.func98, Tryz.ntmps98
 go_wp2_with (first
  | (go_at_call 50; (with_reducible refine (move_inserts.calls _ _ _ _ _ HI.out).mono ?_); rintro e w1 ⟨rfl, hb⟩; have HB1 := Aside0.mk (below_step (bel3 w _ _ _) hb); have B2 := Aside0.mk (blk_below (newBlk3a w _ _ _) hb); have B3 := Aside0.mk (blk_below (newBlk3b w _ _ _) hb); have B4 := Aside0.mk (blk_below (newBlk3c w _ _ _) hb); clear hb; have hc2 := fun (o : Obj) (i : Nat) => blk_cell (blk_alloc B2.out o) i; have hc3 := fun (o : Obj) (i : Nat) => blk_cell (blk_alloc B3.out o) i; have hd3 := fun (i : Nat) => blk_cell B3.out i)
  | ((with_reducible refine gate_store (t := 96) (p := 4) (v := .tmp 53) rfl ?_); refine wpRowSt rfl 96 (.tmp 4) (.tmp 53) rfl (w.heap.size + 2) (spA 0 0) rfl rfl 96 _ (blk_alloc B4.out _) (by kernel_rfl) rfl rfl ?_))
 refine bodyPost_ret (results_cell_row rfl _ _ (w.heap.size + 2) 96 (spA 0 0) (0, 0) _ rfl (setRow_heap _ _ _ _ _ _ (blk_alloc B4.out _)) Tryz.underlying96 rfl (by kernel_rfl)) rfl ?_
 exact ⟨rfl, rowBelow (below_alloc HB1.out _) (by omega) _⟩
theorem left_some (a b c f l : Int) (w : World) (HI : Aside0 (move_inserts.f a b c = some false)) (h : ¬(b ≤ f ∧ l < wrap64 (b + c))) :
  Calls Tryz.prog 98 #[.agg (spA f l), .agg (edA a b c)] w fun e w' => e = .returned (.agg (spA (downV b c (wrap64 (b + c)) f b) (downV b c (wrap64 (b + c)) l (IntKind.i64.wrap (b - 1))))) ∧ Below w.heap.size w w' := by
 by_cases h1 : b ≤ f
 ·have h2 : wrap64 (b + c) ≤ l := by omega
  clear h
  go_enter Tryz.func98, Tryz.ntmps98
  go_wp2_with (first
   | (go_at_call 50; (with_reducible refine (move_inserts.calls _ _ _ _ _ HI.out).mono ?_); rintro e w1 ⟨rfl, hb⟩; have HB1 := Aside0.mk (below_step (bel3 w _ _ _) hb); have B2 := Aside0.mk (blk_below (newBlk3a w _ _ _) hb); have B3 := Aside0.mk (blk_below (newBlk3b w _ _ _) hb); have B4 := Aside0.mk (blk_below (newBlk3c w _ _ _) hb); clear hb; have hc2 := fun (o : Obj) (i : Nat) => blk_cell (blk_alloc B2.out o) i; have hc3 := fun (o : Obj) (i : Nat) => blk_cell (blk_alloc B3.out o) i; have hd3 := fun (i : Nat) => blk_cell B3.out i))
  refine start_ (n := 15) (S := (fun w' => w'.heap[w.heap.size]? = some (.cells (spA f l) 96 (0, 0)) ∧ w'.heap[w.heap.size + 1]? = some (.cells (edA a b c) 47 (0, 0)) ∧ w'.heap[w1.heap.size]? = some (.cells #[.int .i64 (wrap64 (b + c))] 3 (0, 0)) ∧ w'.heap[w.heap.size + 2]? = some (.cells (spA 0 0) 96 (0, 0)))) (ds := [14]) (Array.replicate 15 false) (by kernel_rfl) rfl rfl ⟨blk_drew (blk_alloc B2.out _), blk_drew (blk_alloc B3.out _), blk_drew (newBlk w1 _), blk_drew (blk_alloc B4.out _)⟩ (fun hHeld => ?_)
  refine with_tabW spanLeft.tab14 spanLeft.bits14 (fun HT_ HW_ => ?_)
  refine pz 0 55 HT_ ?_; refine pz 1 56 HT_ ?_; refine pz 3 58 HT_ ?_; refine pz 6 61 HT_ ?_; refine pz 7 62 HT_ ?_; refine pz 9 64 HT_ ?_
  refine tz 2 57 HT_ HW_ (hr := (by rintro w' s0; have q1 := fun i => blk_cell s0.1 i; have q2 := fun i => blk_cell s0.2.1 i; go_simp; with_reducible rfl)) (hS := hHeld) (h := ?_)
  refine tz 4 59 HT_ HW_ (hr := (by rintro w' s0; have q1 := fun i => blk_cell s0.1 i; have q2 := fun i => blk_cell s0.2.1 i; go_simp; with_reducible rfl)) (hS := hHeld) (h := ?_)
  refine tz 8 63 HT_ HW_ (hr := (by rintro w' s0; have q1 := fun i => blk_cell s0.1 i; have q2 := fun i => blk_cell s0.2.1 i; go_simp; with_reducible rfl)) (hS := hHeld) (h := ?_)
  refine tz 10 65 HT_ HW_ (hr := (by rintro w' s0; have q1 := fun i => blk_cell s0.1 i; have q2 := fun i => blk_cell s0.2.1 i; go_simp; with_reducible rfl)) (hS := hHeld) (h := ?_)
  refine pz 11 66 HT_ ?_
  refine oneI 5 (some 60) HT_ rfl rfl (by kernel_rfl) (by decide) (fun K hK => ?_)
  refine goesV_ Tryz.func115 (by kernel_rfl) rfl (.tmp 55) #[ptrV (w.heap.size + 1), ptrV w1.heap.size] #[.int .i64 f, .int .i64 b] #[.int .i64 f, .int .i64 b, ptrV (w.heap.size + 1), ptrV w1.heap.size] (by first | rfl | ((try simp only [List.map_toArray, List.map_cons, List.map_nil]); first | done | rfl)) rfl rfl (by rfl) (by (try simp only [List.map_toArray, List.map_cons, List.map_nil]); first | done | rfl) rfl ?_
  with_reducible refine (down_calls a b c _ _ _ _ _ _ hHeld.2.1 hHeld.2.2.1).mono ?_
  rintro e w2 ⟨rfl, hb⟩
  refine ⟨_, rfl, ?_⟩
  have HB2 := Aside0.mk (below_step (below_drew1 (below_alloc HB1.out _)) hb)
  refine hK.out _ _ ⟨blk_below hHeld.1 hb, blk_below hHeld.2.1 hb, blk_below hHeld.2.2.1 hb, blk_below hHeld.2.2.2 hb⟩ (fun hHeld => ?_)
  clear hK K
  refine nz 60 ?_
  refine oneI 12 (some 67) HT_ rfl rfl (by kernel_rfl) (by decide) (fun K hK => ?_)
  refine goesV_ Tryz.func115 (by kernel_rfl) rfl (.tmp 61) #[ptrV (w.heap.size + 1), ptrV w1.heap.size] #[.int .i64 l, .int .i64 (IntKind.i64.wrap (b - 1))] #[.int .i64 l, .int .i64 (IntKind.i64.wrap (b - 1)), ptrV (w.heap.size + 1), ptrV w1.heap.size] (by first | rfl | ((try simp only [List.map_toArray, List.map_cons, List.map_nil]); first | done | rfl)) rfl rfl (by rfl) (by (try simp only [List.map_toArray, List.map_cons, List.map_nil]); first | done | rfl) rfl ?_
  with_reducible refine (down_calls a b c _ _ _ _ _ _ hHeld.2.1 hHeld.2.2.1).mono ?_
  rintro e w3 ⟨rfl, hb⟩
  refine ⟨_, rfl, ?_⟩
  have HB3 := Aside0.mk (below_step HB2.out hb)
  refine hK.out _ _ ⟨blk_below hHeld.1 hb, blk_below hHeld.2.1 hb, blk_below hHeld.2.2.1 hb, blk_below hHeld.2.2.2 hb⟩ (fun hHeld => ?_)
  clear hK K
  refine nz 67 ?_
  refine pz 13 68 HT_ ?_
  refine lastI 14 none HT_ rfl rfl (by kernel_rfl) (by decide) (fun K hK => ?_)
  have HE := Aside0.mk hHeld.2.2.2
  refine skip_ (by rfl) rfl (rowSkip (ty := 96) (x := .tmp 4) (y := .tmp 68) (g := w.heap.size + 2) (cs := spA (downV b c (wrap64 (b + c)) f b) (downV b c (wrap64 (b + c)) l (IntKind.i64.wrap (b - 1)))) rfl rfl rfl HE.out (by kernel_rfl) rfl rfl) ?_
  refine hK.out _ _ ?_
  clear hK K
  -- norm_
  refine done_ (done_of HT_.out (by kernel_rfl)) ?_
  go_wp2
  refine bodyPost_ret (results_cell_row rfl _ _ (w.heap.size + 2) 96 _ (0, 0) _ rfl (setRow_heap _ _ _ _ _ _ HE.out) Tryz.underlying96 rfl (by kernel_rfl)) rfl ?_
  exact ⟨rfl, rowBelow HB3.out (by omega) _⟩
 ·clear h
  go_enter Tryz.func98, Tryz.ntmps98
  go_wp2_with (first
   | (go_at_call 50; (with_reducible refine (move_inserts.calls _ _ _ _ _ HI.out).mono ?_); rintro e w1 ⟨rfl, hb⟩; have HB1 := Aside0.mk (below_step (bel3 w _ _ _) hb); have B2 := Aside0.mk (blk_below (newBlk3a w _ _ _) hb); have B3 := Aside0.mk (blk_below (newBlk3b w _ _ _) hb); have B4 := Aside0.mk (blk_below (newBlk3c w _ _ _) hb); clear hb; have hc2 := fun (o : Obj) (i : Nat) => blk_cell (blk_alloc B2.out o) i; have hc3 := fun (o : Obj) (i : Nat) => blk_cell (blk_alloc B3.out o) i; have hd3 := fun (i : Nat) => blk_cell B3.out i))
  refine start_ (n := 15) (S := (fun w' => w'.heap[w.heap.size]? = some (.cells (spA f l) 96 (0, 0)) ∧ w'.heap[w.heap.size + 1]? = some (.cells (edA a b c) 47 (0, 0)) ∧ w'.heap[w1.heap.size]? = some (.cells #[.int .i64 (wrap64 (b + c))] 3 (0, 0)) ∧ w'.heap[w.heap.size + 2]? = some (.cells (spA 0 0) 96 (0, 0)))) (ds := [14]) (Array.replicate 15 false) (by kernel_rfl) rfl rfl ⟨blk_drew (blk_alloc B2.out _), blk_drew (blk_alloc B3.out _), blk_drew (newBlk w1 _), blk_drew (blk_alloc B4.out _)⟩ (fun hHeld => ?_)
  refine with_tabW spanLeft.tab14 spanLeft.bits14 (fun HT_ HW_ => ?_)
  refine pz 0 55 HT_ ?_; refine pz 1 56 HT_ ?_; refine pz 3 58 HT_ ?_; refine pz 6 61 HT_ ?_; refine pz 7 62 HT_ ?_; refine pz 9 64 HT_ ?_
  refine tz 2 57 HT_ HW_ (hr := (by rintro w' s0; have q1 := fun i => blk_cell s0.1 i; have q2 := fun i => blk_cell s0.2.1 i; go_simp; with_reducible rfl)) (hS := hHeld) (h := ?_)
  refine tz 4 59 HT_ HW_ (hr := (by rintro w' s0; have q1 := fun i => blk_cell s0.1 i; have q2 := fun i => blk_cell s0.2.1 i; go_simp; with_reducible rfl)) (hS := hHeld) (h := ?_)
  refine tz 8 63 HT_ HW_ (hr := (by rintro w' s0; have q1 := fun i => blk_cell s0.1 i; have q2 := fun i => blk_cell s0.2.1 i; go_simp; with_reducible rfl)) (hS := hHeld) (h := ?_)
  refine tz 10 65 HT_ HW_ (hr := (by rintro w' s0; have q1 := fun i => blk_cell s0.1 i; have q2 := fun i => blk_cell s0.2.1 i; go_simp; with_reducible rfl)) (hS := hHeld) (h := ?_)
  refine pz 11 66 HT_ ?_
  refine oneI 5 (some 60) HT_ rfl rfl (by kernel_rfl) (by decide) (fun K hK => ?_)
  refine goesV_ Tryz.func115 (by kernel_rfl) rfl (.tmp 55) #[ptrV (w.heap.size + 1), ptrV w1.heap.size] #[.int .i64 f, .int .i64 b] #[.int .i64 f, .int .i64 b, ptrV (w.heap.size + 1), ptrV w1.heap.size] (by first | rfl | ((try simp only [List.map_toArray, List.map_cons, List.map_nil]); first | done | rfl)) rfl rfl (by rfl) (by (try simp only [List.map_toArray, List.map_cons, List.map_nil]); first | done | rfl) rfl ?_
  with_reducible refine (down_calls a b c _ _ _ _ _ _ hHeld.2.1 hHeld.2.2.1).mono ?_
  rintro e w2 ⟨rfl, hb⟩
  refine ⟨_, rfl, ?_⟩
  have HB2 := Aside0.mk (below_step (below_drew1 (below_alloc HB1.out _)) hb)
  refine hK.out _ _ ⟨blk_below hHeld.1 hb, blk_below hHeld.2.1 hb, blk_below hHeld.2.2.1 hb, blk_below hHeld.2.2.2 hb⟩ (fun hHeld => ?_)
  clear hK K
  refine nz 60 ?_
  refine oneI 12 (some 67) HT_ rfl rfl (by kernel_rfl) (by decide) (fun K hK => ?_)
  refine goesV_ Tryz.func115 (by kernel_rfl) rfl (.tmp 61) #[ptrV (w.heap.size + 1), ptrV w1.heap.size] #[.int .i64 l, .int .i64 (IntKind.i64.wrap (b - 1))] #[.int .i64 l, .int .i64 (IntKind.i64.wrap (b - 1)), ptrV (w.heap.size + 1), ptrV w1.heap.size] (by first | rfl | ((try simp only [List.map_toArray, List.map_cons, List.map_nil]); first | done | rfl)) rfl rfl (by rfl) (by (try simp only [List.map_toArray, List.map_cons, List.map_nil]); first | done | rfl) rfl ?_
  with_reducible refine (down_calls a b c _ _ _ _ _ _ hHeld.2.1 hHeld.2.2.1).mono ?_
  rintro e w3 ⟨rfl, hb⟩
  refine ⟨_, rfl, ?_⟩
  have HB3 := Aside0.mk (below_step HB2.out hb)
  refine hK.out _ _ ⟨blk_below hHeld.1 hb, blk_below hHeld.2.1 hb, blk_below hHeld.2.2.1 hb, blk_below hHeld.2.2.2 hb⟩ (fun hHeld => ?_)
  clear hK K
  refine nz 67 ?_
  refine pz 13 68 HT_ ?_
  refine lastI 14 none HT_ rfl rfl (by kernel_rfl) (by decide) (fun K hK => ?_)
  have HE := Aside0.mk hHeld.2.2.2
  refine skip_ (by rfl) rfl (rowSkip (ty := 96) (x := .tmp 4) (y := .tmp 68) (g := w.heap.size + 2) (cs := spA (downV b c (wrap64 (b + c)) f b) (downV b c (wrap64 (b + c)) l (IntKind.i64.wrap (b - 1)))) rfl rfl rfl HE.out (by kernel_rfl) rfl rfl) ?_
  refine hK.out _ _ ?_
  clear hK K
  -- norm_
  refine done_ (done_of HT_.out (by kernel_rfl)) ?_
  go_wp2
  refine bodyPost_ret (results_cell_row rfl _ _ (w.heap.size + 2) 96 _ (0, 0) _ rfl (setRow_heap _ _ _ _ _ _ HE.out) Tryz.underlying96 rfl (by kernel_rfl)) rfl ?_
  exact ⟨rfl, rowBelow HB3.out (by omega) _⟩
def leftS (a b c f l : Int) : Int × Int :=
  if insB a = true then
    (if stepF a b c f = 2 then (0, 0)
     else if stepF a b c l = 2 then (stepV a b c f, if wrap64 (b + c) > mostI a then wrap64 (b - 1) else mostI a)
     else (stepV a b c f, stepV a b c l))
  else if b ≤ f ∧ l < wrap64 (b + c) then (0, 0)
  else (downV b c (wrap64 (b + c)) f b, downV b c (wrap64 (b + c)) l (IntKind.i64.wrap (b - 1)))
theorem left_calls (a b c f l : Int) (w : World) :
  Calls Tryz.prog 98 #[.agg (spA f l), .agg (edA a b c)] w fun e w' => e = .returned (.agg (spA (leftS a b c f l).1 (leftS a b c f l).2)) ∧ Below w.heap.size w w' := by
 unfold leftS
 cases hi : insB a with
 | true =>
  rw [if_pos rfl]
  have HI := Aside0.mk (show move_inserts.f a b c = some true by rw [inserts_B, hi])
  by_cases h1 : stepF a b c f = 2
  ·rw [if_pos h1]
   exact left_off a b c f l _ _ w HI ⟨rfl⟩ ⟨rfl⟩ h1
  ·rw [if_neg h1]
   by_cases h2 : stepF a b c l = 2
   ·rw [if_pos h2]
    by_cases h3 : wrap64 (b + c) > mostI a
    ·rw [if_pos h3]
     exact left_clip1 a b c f l _ _ _ w HI ⟨rfl⟩ ⟨rfl⟩ h1 h2 ⟨most_I a b c⟩ h3
    ·rw [if_neg h3]
     exact left_clip0 a b c f l _ _ _ w HI ⟨rfl⟩ ⟨rfl⟩ h1 h2 ⟨most_I a b c⟩ h3
   ·rw [if_neg h2]
    exact left_in a b c f l _ _ w HI ⟨rfl⟩ ⟨rfl⟩ h1 h2
 | false =>
  rw [if_neg (show ¬(false = true) by simp)]
  have HI := Aside0.mk (show move_inserts.f a b c = some false by rw [inserts_B, hi])
  by_cases h : b ≤ f ∧ l < wrap64 (b + c)
  ·rw [if_pos h]
   exact left_gone a b c f l w HI h.1 h.2
  ·rw [if_neg h]
   exact left_some a b c f l w HI h
end Go.Proofs.YthnldbclbfpojaaGreatDoor.Pr
end
