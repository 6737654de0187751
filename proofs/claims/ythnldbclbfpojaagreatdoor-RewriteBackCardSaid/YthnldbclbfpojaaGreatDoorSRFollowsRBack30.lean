/-
  Lemmas for the law RFollowsRBack.
-/
import Derived.Test.YthnldbclbfpojaaGreatDoorSRFollowsRBack29
import Derived.Test.YthnldbclbfpojaaGreatDoorSRFollowsRBack18
import Derived.Test.YthnldbclbfpojaaGreatDoorSRFollowsRBack13
import Derived.Test.YthnldbclbfpojaaGreatDoorSRFollowsRBack12
import Derived.Test.YthnldbclbfpojaaGreatDoorSRFollowsRBack10
import Derived.Test.YthnldbclbfpojaaGreatDoorSRFollowsRBack28
import Derived.Test.YthnldbclbfpojaaGreatDoorSRFollowsRBack26
import Derived.Laws.EntriesVeiled
set_option maxHeartbeats 8000000
set_option maxRecDepth 100000
set_option linter.unusedVariables false
set_option linter.unusedSimpArgs false
section
namespace Go.Proofs.YthnldbclbfpojaaGreatDoor.Pr
open Go.RowKit Go.Proofs.YthnldbclbfpojaaGreatDoorW.PrintWords Go.Proofs.YthnldbclbfpojaaGreatDoorW.PrintLast Go.Proofs.YthnldbclbfpojaaGreatDoorW.PrintMore
theorem rowSkip {P : Program} {W : World} {g : Nat} {t ty : TypeId} {old cs : Array Value} {a : Act} {oi : Oper} {x y : Operand} (ho : oi.op = .store ty x y) (hx : a.eval x = .pointer (some ⟨g, 0, none⟩)) (hy : a.eval y = .agg cs)
  (hg : W.heap[g]? = some (.cells old t (0, 0))) (hi : (P.info? ty).map (·.size) = some cs.size) (hs : old.size = cs.size) (h1 : cs.toList.all (·.oneCell') = true) :
  (execOp a.eval oi).run P W = .ok .skip (W.setRow g cs) := by
 unfold execOp
 rw [ho]
 simp only [hx, hy]
 simp only [Sem.run_bind, rowSt hg hi hs h1, Result.andThen_ok, Sem.run_pure]
theorem results_cct {P : Program} {fn : Func} {p p' u : Tmp} {ty ty' : TypeId} (h : fn.results = #[.cell p ty, .cell p' ty', .tmp u]) (tmps : Array Value) (w : World) (g g' : Nat) (t t' : TypeId) (cs cs' : Array Value) (fr fr' : Nat × Nat) (d d' : TypeDesc)
  (hp : tmps.getD p undef = .pointer (some ⟨g, 0, none⟩)) (hg : w.heap[g]? = some (.cells cs t fr))
  (hu : P.underlying ty = some d) (hd : (match d with | .struct _ | .array _ _ => true | _ => false) = true) (hi : (P.info? ty).map (·.size) = some cs.size)
  (hp' : tmps.getD p' undef = .pointer (some ⟨g', 0, none⟩)) (hg' : w.heap[g']? = some (.cells cs' t' fr'))
  (hu' : P.underlying ty' = some d') (hd' : (match d' with | .struct _ | .array _ _ => true | _ => false) = true) (hi' : (P.info? ty').map (·.size) = some cs'.size) :
  (results fn tmps).run P w = .ok (.tuple #[.agg cs, .agg cs', tmps.getD u undef]) w := by
 have h1 : tmps[p]?.getD undef = .pointer (some ⟨g, 0, none⟩) := by simpa using hp
 have h2 : tmps[p']?.getD undef = .pointer (some ⟨g', 0, none⟩) := by simpa using hp'
 simp [results, h, h1, h2, asAddr, run_loadVar_row w g t ty cs fr d hg hu hd hi, run_loadVar_row w g' t' ty' cs' fr' d' hg' hu' hd' hi']
def shifting2.T3 : Bool × List (List Nat × List Nat) := (true, [([], []), ([], []), ([], []), ([2], [2]), ([3], [3]), ([3, 4], [3, 4]), ([0, 3, 0], [0]), ([1, 6, 0, 1, 6], [1]), ([5, 7, 0, 1, 2, 3, 4, 5, 6, 7], [5])])
def shifting2.B3 : List Nat := [0, 0, 0, 4, 12, 28, 13, 79, 255]
theorem shifting2.tab3 : rtab .any (opsOf Tryz.f57 3) = shifting2.T3 := by kernel_rfl
theorem shifting2.bits3 : waitsOk shifting2.T3.2 shifting2.B3 = true := by kernel_rfl
theorem newBlk4 (w : World) (o p q r : Obj) : ((((w.alloc o).alloc p).alloc q).alloc r).heap[w.heap.size]? = some o ∧ ((((w.alloc o).alloc p).alloc q).alloc r).heap[w.heap.size + 1]? = some p ∧ ((((w.alloc o).alloc p).alloc q).alloc r).heap[w.heap.size + 2]? = some q ∧ ((((w.alloc o).alloc p).alloc q).alloc r).heap[w.heap.size + 3]? = some r := by
 refine ⟨blk_alloc (newBlk3a w o p q) r, blk_alloc (newBlk3b w o p q) r, blk_alloc (newBlk3c w o p q) r, ?_⟩
 have h := newBlk (((w.alloc o).alloc p).alloc q) r
 have e : (((w.alloc o).alloc p).alloc q).heap.size = w.heap.size + 3 := by simp
 rwa [e] at h
theorem bel4 (w : World) (o p q r : Obj) : Below w.heap.size w ((((w.alloc o).alloc p).alloc q).alloc r) := below_alloc (bel3 w o p q) r
theorem shifting2_calls (a b : Ce) (r k : Int) (p q f : Nat) (w : World) (hL0 : Aside0 (LaidW w)) (hH : Held2 r k p q w) (hF : w.heap[f]? = some (.cells #[.func (.func 55) #[] #[ptrV p, ptrV q]] 73 (0, 0))) :
  Calls Tryz.prog 57 #[.agg (cellA a), .agg (cellA b), ptrV f] w fun e w' => e = .returned (.tuple #[.agg (cellA (slidC r k a)), .agg (cellA (slidC r k b)), .bool (cellB (slidC r k a) && cellB (slidC r k b))]) ∧ Below w.heap.size w w' := by
 have H1a := Aside0.mk fun (W : World) (h : Below w.heap.size w W) => shifting1_calls a r k p q W (LaidAt hL0 h) (hH.below h)
 have H1b := Aside0.mk fun (W : World) (h : Below w.heap.size w W) => shifting1_calls b r k p q W (LaidAt hL0 h) (hH.below h)
 have HF := Aside0.mk hF
 have qf := blk_lt hF
 have hf := fun (o1 o2 o3 o4 : Obj) => (blk_cell (blk_alloc (blk_alloc (blk_alloc (blk_alloc hF o1) o2) o3) o4) 0).trans (show _ = some (Value.func (.func 55) #[] #[ptrV p, ptrV q]) from rfl)
 clear hH hF hL0
 generalize slidC r k a = a' at H1a ⊢
 generalize slidC r k b = b' at H1b ⊢
 generalize cellB a' = ga at H1a ⊢
 generalize cellB b' = gb at H1b ⊢
 cases ga
 ·go_enter Tryz.func57, Tryz.ntmps57
  go_wp2_with (first
   | (go_at_call 55; (with_reducible refine (H1a.out _ (bel4 w _ _ _ _)).mono ?_); clear H1a; rintro e w1 ⟨rfl, hb⟩; have HB1 := Aside0.mk (below_step (bel4 w _ _ _ _) hb); have B3 := Aside0.mk (blk_below (newBlk4 w _ _ _ _).1 hb); have B4 := Aside0.mk (blk_below (newBlk4 w _ _ _ _).2.1 hb); have B5 := Aside0.mk (blk_below (newBlk4 w _ _ _ _).2.2.1 hb); have B6 := Aside0.mk (blk_below (newBlk4 w _ _ _ _).2.2.2 hb); have F1 := Aside0.mk (blk_below HF.out HB1.out); clear hb hf)
   | ((with_reducible refine gate_store (t := 30) (p := 3) (v := .tmp 14) rfl ?_); refine wpRowSt rfl 30 (.tmp 3) (.tmp 14) rfl w.heap.size (cellA a') rfl rfl 30 _ B3.out (by kernel_rfl) rfl rfl ?_; have hf1 := (blk_cell (rowOther (cellA a') F1.out (g := w.heap.size) (by omega)) 0).trans (show _ = some (Value.func (.func 55) #[] #[ptrV p, ptrV q]) from rfl); have hc4 := fun i => blk_cell (rowOther (cellA a') B4.out (g := w.heap.size) (by omega)) i)
   | (go_at_call 55; (with_reducible refine (H1b.out _ (rowBelow HB1.out (Nat.le_refl _) _)).mono ?_); rintro e w2 ⟨rfl, hb⟩; have HB2 := Aside0.mk (below_step (rowBelow HB1.out (Nat.le_refl _) (cellA a')) hb); have D3 := Aside0.mk (blk_below (setRow_heap _ _ _ _ _ _ B3.out) hb); have D4 := Aside0.mk (blk_below (rowOther (cellA a') B4.out (g := w.heap.size) (by omega)) hb); have D5 := Aside0.mk (blk_below (rowOther (cellA a') B5.out (g := w.heap.size) (by omega)) hb); have D6 := Aside0.mk (blk_below (rowOther (cellA a') B6.out (g := w.heap.size) (by omega)) hb); clear hb hf1 hc4 B3 B4 B5 B6 HB1 F1)
   | ((with_reducible refine gate_store (t := 30) (p := 4) (v := .tmp 20) rfl ?_); refine wpRowSt rfl 30 (.tmp 4) (.tmp 20) rfl (w.heap.size + 1) (cellA b') rfl rfl 30 _ D4.out (by kernel_rfl) rfl rfl ?_))
  have E3 := Aside0.mk (blk_drew (rowOther (cellA b') D3.out (g := w.heap.size + 1) (by omega)))
  have E4 := Aside0.mk (blk_drew (setRow_heap _ _ _ (cellA b') _ _ D4.out))
  have E5 := Aside0.mk (blk_drew (rowOther (cellA b') D5.out (g := w.heap.size + 1) (by omega)))
  have E6 := Aside0.mk (blk_drew (rowOther (cellA b') D6.out (g := w.heap.size + 1) (by omega)))
  refine start_ (n := 9) (S := (fun w' => w'.heap[w.heap.size]? = some (.cells (cellA a') 30 (0, 0)) ∧ w'.heap[w.heap.size + 1]? = some (.cells (cellA b') 30 (0, 0)))) (ds := []) (Array.replicate 9 false) (by kernel_rfl) rfl rfl ⟨E3.out, E4.out⟩ (fun hHeld => ?_)
  refine with_tabW shifting2.tab3 shifting2.bits3 (fun HT_ HW_ => ?_)
  refine pz 2 24 HT_ ?_; refine pz 3 25 HT_ ?_; refine uz 4 26 HT_ ?_; refine pz 5 27 HT_ ?_
  refine tz 0 22 HT_ HW_ (hr := (by rintro w' s0; have q1 := fun i => blk_cell s0.1 i; have q2 := fun i => blk_cell s0.2 i; go_simp; with_reducible rfl)) (hS := hHeld) (h := ?_)
  refine tz 1 23 HT_ HW_ (hr := (by rintro w' s0; have q1 := fun i => blk_cell s0.1 i; have q2 := fun i => blk_cell s0.2 i; go_simp; with_reducible rfl)) (hS := hHeld) (h := ?_)
  refine oneI 6 none HT_ rfl rfl (by kernel_rfl) (by decide) (fun K hK => ?_)
  refine skip_ (by rfl) rfl (rowSkip (ty := 30) (x := .tmp 5) (y := .tmp 22) (g := w.heap.size + 2) (cs := cellA a') rfl rfl rfl E5.out (by kernel_rfl) rfl rfl) ?_
  refine hK.out _ _ ⟨rowOther _ E3.out (g := w.heap.size + 2) (by omega), rowOther _ E4.out (g := w.heap.size + 2) (by omega)⟩ (fun hHeld => ?_)
  clear hK K
  -- norm_
  refine oneI 7 none HT_ rfl rfl (by kernel_rfl) (by decide) (fun K hK => ?_)
  refine skip_ (by rfl) rfl (rowSkip (ty := 30) (x := .tmp 6) (y := .tmp 23) (g := w.heap.size + 3) (cs := cellA b') rfl rfl rfl (rowOther (cellA a') E6.out (g := w.heap.size + 2) (by omega)) (by kernel_rfl) rfl rfl) ?_
  refine hK.out _ _ ⟨rowOther _ (rowOther _ E3.out (g := w.heap.size + 2) (by omega)) (g := w.heap.size + 3) (by omega), rowOther _ (rowOther _ E4.out (g := w.heap.size + 2) (by omega)) (g := w.heap.size + 3) (by omega)⟩ (fun hHeld => ?_)
  clear hK K
  -- norm_
  refine pz 8 7 HT_ ?_
  refine done_ (done_of HT_.out (by kernel_rfl)) ?_
  go_wp2
  refine bodyPost_ret (results_cct rfl _ _ (w.heap.size + 2) (w.heap.size + 3) 30 30 (cellA a') (cellA b') (0, 0) (0, 0) _ _ rfl (rowOther (cellA b') (setRow_heap _ _ _ (cellA a') _ _ E5.out) (g := w.heap.size + 3) (by omega)) Tryz.underlying30 rfl (by kernel_rfl) rfl (setRow_heap _ _ _ (cellA b') _ _ (rowOther (cellA a') E6.out (g := w.heap.size + 2) (by omega))) Tryz.underlying30 rfl (by kernel_rfl)) rfl ?_
  exact ⟨by simp, rowBelow (rowBelow (below_drew1 (rowBelow HB2.out (by omega) _)) (by omega) _) (by omega) _⟩
 ·go_enter Tryz.func57, Tryz.ntmps57
  go_wp2_with (first
   | (go_at_call 55; (with_reducible refine (H1a.out _ (bel4 w _ _ _ _)).mono ?_); clear H1a; rintro e w1 ⟨rfl, hb⟩; have HB1 := Aside0.mk (below_step (bel4 w _ _ _ _) hb); have B3 := Aside0.mk (blk_below (newBlk4 w _ _ _ _).1 hb); have B4 := Aside0.mk (blk_below (newBlk4 w _ _ _ _).2.1 hb); have B5 := Aside0.mk (blk_below (newBlk4 w _ _ _ _).2.2.1 hb); have B6 := Aside0.mk (blk_below (newBlk4 w _ _ _ _).2.2.2 hb); have F1 := Aside0.mk (blk_below HF.out HB1.out); clear hb hf)
   | ((with_reducible refine gate_store (t := 30) (p := 3) (v := .tmp 14) rfl ?_); refine wpRowSt rfl 30 (.tmp 3) (.tmp 14) rfl w.heap.size (cellA a') rfl rfl 30 _ B3.out (by kernel_rfl) rfl rfl ?_; have hf1 := (blk_cell (rowOther (cellA a') F1.out (g := w.heap.size) (by omega)) 0).trans (show _ = some (Value.func (.func 55) #[] #[ptrV p, ptrV q]) from rfl); have hc4 := fun i => blk_cell (rowOther (cellA a') B4.out (g := w.heap.size) (by omega)) i)
   | (go_at_call 55; (with_reducible refine (H1b.out _ (rowBelow HB1.out (Nat.le_refl _) _)).mono ?_); rintro e w2 ⟨rfl, hb⟩; have HB2 := Aside0.mk (below_step (rowBelow HB1.out (Nat.le_refl _) (cellA a')) hb); have D3 := Aside0.mk (blk_below (setRow_heap _ _ _ _ _ _ B3.out) hb); have D4 := Aside0.mk (blk_below (rowOther (cellA a') B4.out (g := w.heap.size) (by omega)) hb); have D5 := Aside0.mk (blk_below (rowOther (cellA a') B5.out (g := w.heap.size) (by omega)) hb); have D6 := Aside0.mk (blk_below (rowOther (cellA a') B6.out (g := w.heap.size) (by omega)) hb); clear hb hf1 hc4 B3 B4 B5 B6 HB1 F1)
   | ((with_reducible refine gate_store (t := 30) (p := 4) (v := .tmp 20) rfl ?_); refine wpRowSt rfl 30 (.tmp 4) (.tmp 20) rfl (w.heap.size + 1) (cellA b') rfl rfl 30 _ D4.out (by kernel_rfl) rfl rfl ?_))
  have E3 := Aside0.mk (blk_drew (rowOther (cellA b') D3.out (g := w.heap.size + 1) (by omega)))
  have E4 := Aside0.mk (blk_drew (setRow_heap _ _ _ (cellA b') _ _ D4.out))
  have E5 := Aside0.mk (blk_drew (rowOther (cellA b') D5.out (g := w.heap.size + 1) (by omega)))
  have E6 := Aside0.mk (blk_drew (rowOther (cellA b') D6.out (g := w.heap.size + 1) (by omega)))
  refine start_ (n := 9) (S := (fun w' => w'.heap[w.heap.size]? = some (.cells (cellA a') 30 (0, 0)) ∧ w'.heap[w.heap.size + 1]? = some (.cells (cellA b') 30 (0, 0)))) (ds := []) (Array.replicate 9 false) (by kernel_rfl) rfl rfl ⟨E3.out, E4.out⟩ (fun hHeld => ?_)
  refine with_tabW shifting2.tab3 shifting2.bits3 (fun HT_ HW_ => ?_)
  refine pz 2 24 HT_ ?_; refine pz 3 25 HT_ ?_; refine pz 4 26 HT_ ?_; refine pz 5 27 HT_ ?_
  refine tz 0 22 HT_ HW_ (hr := (by rintro w' s0; have q1 := fun i => blk_cell s0.1 i; have q2 := fun i => blk_cell s0.2 i; go_simp; with_reducible rfl)) (hS := hHeld) (h := ?_)
  refine tz 1 23 HT_ HW_ (hr := (by rintro w' s0; have q1 := fun i => blk_cell s0.1 i; have q2 := fun i => blk_cell s0.2 i; go_simp; with_reducible rfl)) (hS := hHeld) (h := ?_)
  refine oneI 6 none HT_ rfl rfl (by kernel_rfl) (by decide) (fun K hK => ?_)
  refine skip_ (by rfl) rfl (rowSkip (ty := 30) (x := .tmp 5) (y := .tmp 22) (g := w.heap.size + 2) (cs := cellA a') rfl rfl rfl E5.out (by kernel_rfl) rfl rfl) ?_
  refine hK.out _ _ ⟨rowOther _ E3.out (g := w.heap.size + 2) (by omega), rowOther _ E4.out (g := w.heap.size + 2) (by omega)⟩ (fun hHeld => ?_)
  clear hK K
  -- norm_
  refine oneI 7 none HT_ rfl rfl (by kernel_rfl) (by decide) (fun K hK => ?_)
  refine skip_ (by rfl) rfl (rowSkip (ty := 30) (x := .tmp 6) (y := .tmp 23) (g := w.heap.size + 3) (cs := cellA b') rfl rfl rfl (rowOther (cellA a') E6.out (g := w.heap.size + 2) (by omega)) (by kernel_rfl) rfl rfl) ?_
  refine hK.out _ _ ⟨rowOther _ (rowOther _ E3.out (g := w.heap.size + 2) (by omega)) (g := w.heap.size + 3) (by omega), rowOther _ (rowOther _ E4.out (g := w.heap.size + 2) (by omega)) (g := w.heap.size + 3) (by omega)⟩ (fun hHeld => ?_)
  clear hK K
  -- norm_
  refine pz 8 7 HT_ ?_
  refine done_ (done_of HT_.out (by kernel_rfl)) ?_
  go_wp2
  refine bodyPost_ret (results_cct rfl _ _ (w.heap.size + 2) (w.heap.size + 3) 30 30 (cellA a') (cellA b') (0, 0) (0, 0) _ _ rfl (rowOther (cellA b') (setRow_heap _ _ _ (cellA a') _ _ E5.out) (g := w.heap.size + 3) (by omega)) Tryz.underlying30 rfl (by kernel_rfl) rfl (setRow_heap _ _ _ (cellA b') _ _ (rowOther (cellA a') E6.out (g := w.heap.size + 2) (by omega))) Tryz.underlying30 rfl (by kernel_rfl)) rfl ?_
  exact ⟨by simp, rowBelow (rowBelow (below_drew1 (rowBelow HB2.out (by omega) _)) (by omega) _) (by omega) _⟩
theorem shifting_calls (r k : Int) (w : World) :
  Calls Tryz.prog 32 #[.int .i64 r, .int .i64 k] w fun e w' => e = .returned (wayV1 (ptrV w.heap.size) (ptrV (w.heap.size + 1)) (ptrV (w.heap.size + 3))) ∧ Held2 r k w.heap.size (w.heap.size + 1) w' ∧ w'.heap[w.heap.size + 3]? = some (.cells #[.func (.func 55) #[] #[ptrV w.heap.size, ptrV (w.heap.size + 1)]] 73 (0, 0)) ∧ Below w.heap.size w w' := by
 go_enter Tryz.func32, Tryz.ntmps32
 go_wp2
 refine bodyPost_ret (results_cell_row rfl _ _ (w.heap.size + 2) 76 _ (0, 0) _ rfl (newBlk4 w _ _ _ _).2.2.1 Tryz.underlying76 rfl (by kernel_rfl)) rfl ?_
 exact ⟨rfl, ⟨(newBlk4 w _ _ _ _).1, (newBlk4 w _ _ _ _).2.1⟩, (newBlk4 w _ _ _ _).2.2.2, bel4 w _ _ _ _⟩
def insB (k : Int) : Bool := k == 1 || k == 3
def rowsB (k : Int) : Bool := k == 1 || k == 2
def mostI (k : Int) : Int := if rowsB k = true then 1048576 else 16384
theorem inserts_B (a b c : Int) : move_inserts.f a b c = some (insB a) := by
 unfold move_inserts.f insB
 by_cases h : a = 1 <;> simp [h]
theorem rows_B (a b c : Int) : move_rows.f a b c = some (rowsB a) := by
 unfold move_rows.f rowsB
 by_cases h : a = 1 <;> simp [h]
theorem most_I (a b c : Int) : move_most.f a b c = some (mostI a) := by
 unfold move_most.f mostI
 rw [rows_B]
 cases rowsB a <;> rfl
def edB (a b c : Int) : Bool := decide (1 ≤ a) && (decide (a ≤ 4) && (decide (1 ≤ b) && (decide (b ≤ mostI a) && (decide (1 ≤ c) && decide (c ≤ mostI a - b + 1)))))
theorem mostI_bd (a : Int) : mostI a = 1048576 ∨ mostI a = 16384 := by
 unfold mostI
 split
 ·exact Or.inl rfl
 ·exact Or.inr rfl
theorem moveCheck_B (a b c : Int) : move_Check.f a b c = some (if edB a b c = true then 0 else 2) := by
 have hm := mostI_bd a
 unfold move_Check.f edB
 rw [most_I]
 generalize mostI a = m at hm ⊢
 by_cases h1 : a < 1
 ·rw [if_pos h1, decide_eq_false (show ¬1 ≤ a by omega)]; rfl
 rw [if_neg h1, decide_eq_true (show 1 ≤ a by omega)]
 by_cases h2 : a > 4
 ·rw [if_pos h2, decide_eq_false (show ¬a ≤ 4 by omega)]; rfl
 rw [if_neg h2, decide_eq_true (show a ≤ 4 by omega)]
 by_cases h3 : b < 1
 ·rw [if_pos h3, decide_eq_false (show ¬1 ≤ b by omega)]; rfl
 rw [if_neg h3, decide_eq_true (show 1 ≤ b by omega)]
 simp only [Option.bind_some]
 by_cases h4 : b > m
 ·rw [if_pos h4, decide_eq_false (show ¬b ≤ m by omega)]; rfl
 rw [if_neg h4, decide_eq_true (show b ≤ m by omega)]
 by_cases h5 : c < 1
 ·rw [if_pos h5, decide_eq_false (show ¬1 ≤ c by omega)]; rfl
 rw [if_neg h5, decide_eq_true (show 1 ≤ c by omega)]
 have hw : wrap64 (wrap64 (m - b) + 1) = m - b + 1 := by
  have e1 : wrap64 (m - b) = m - b := by unfold wrap64; omega
  rw [e1]
  unfold wrap64; omega
 rw [hw]
 by_cases h6 : c > m - b + 1
 ·rw [if_pos h6, decide_eq_false (show ¬c ≤ m - b + 1 by omega)]; rfl
 ·rw [if_neg h6, decide_eq_true (show c ≤ m - b + 1 by omega)]; rfl
def stepV (a b c n : Int) : Int := if n < b then n else if insB a = true then IntKind.i64.wrap (n + c) else IntKind.i64.wrap (n - c)
def stepF (a b c n : Int) : Int := if n < b then 0 else if insB a = true then (if IntKind.i64.wrap (n + c) > mostI a then 2 else 0) else (if IntKind.i64.wrap (n - c) < b then 1 else 0)
theorem step_calls (a b c n : Int) (g j : Nat) (cs : Array Value) (t : TypeId) (w : World) (HG : w.heap[g]? = some (.cells cs t (0, 0))) (HJ : cs[j]? = some (.int .i64 n)) :
  Calls Tryz.prog 44 #[.agg (edA a b c), .pointer (some ⟨g, j, none⟩)] w fun e w' => e = .returned (.int .i64 (stepF a b c n)) ∧ Below w.heap.size (w.setCell ⟨g, j, none⟩ (.int .i64 (stepV a b c n))) w' := by
 unfold stepF stepV
 by_cases h : n < b
 ·rw [if_pos h, if_pos h]
  exact step_stays a b c n g j cs t w ⟨HG⟩ ⟨HJ⟩ h
 ·rw [if_neg h, if_neg h]
  cases hi : insB a with
  | true =>
   rw [if_pos rfl, if_pos rfl]
   exact step_ins a b c n _ _ g j cs t w ⟨HG⟩ ⟨HJ⟩ h ⟨by rw [inserts_B, hi]⟩ ⟨most_I a b c⟩ rfl
  | false =>
   rw [if_neg (show ¬(false = true) by simp), if_neg (show ¬(false = true) by simp)]
   exact step_del a b c n _ g j cs t w ⟨HG⟩ ⟨HJ⟩ h ⟨by rw [inserts_B, hi]⟩ rfl
def spotS (a b c r k : Int) : (Int × Int) × Int × Int :=
  if placeB r k = true ∧ edB a b c = true then
    (if rowsB a = true then (if stepF a b c r = 0 then ((stepV a b c r, k), 0, 0) else ((0, 0), stepF a b c r, 0))
     else (if stepF a b c k = 0 then ((r, stepV a b c k), 0, 0) else ((0, 0), stepF a b c k, 0)))
  else ((0, 0), 0, 2)
theorem placeOf_same (r k : Int) : ∃ p q s t, place_Of.f r k r k = some (p, q, s, t, if placeB r k = true then 0 else 2) := by
 unfold place_Of.f
 rw [place_is_B]
 cases placeB r k
 ·exact ⟨_, _, _, _, rfl⟩
 ·exact ⟨_, _, _, _, rfl⟩
abbrev atA (r k : Int) : Array Value := #[.int .i64 r, .int .i64 k]
theorem spot_no (a b c r k : Int) (w : World) (h : ¬(placeB r k = true ∧ edB a b c = true)) :
    Calls Tryz.prog 22 #[.agg (edA a b c), .agg (atA r k)] w fun e w' => e = .returned (.tuple #[.agg (atA 0 0), .int .i64 0, .int .i64 2]) ∧ Below w.heap.size w w' := by
  obtain ⟨p, q, s, t, ho⟩ := placeOf_same r k
  have hc := moveCheck_B a b c
  have main : ∀ x y : Int, Aside0 (place_Of.f r k r k = some (p, q, s, t, x)) → Aside0 (move_Check.f a b c = some y) → (x = 2 ∨ (x = 0 ∧ y = 2)) → Calls Tryz.prog 22 #[.agg (edA a b c), .agg (atA r k)] w fun e w' => e = .returned (.tuple #[.agg (atA 0 0), .int .i64 0, .int .i64 2]) ∧ Below w.heap.size w w' := by
    clear ho hc h
    intro x y HO HC hxy
    rcases hxy with rfl | ⟨rfl, rfl⟩
    all_goals
      go_enter Tryz.func22, Tryz.ntmps22
      go_wp2_with (first
        | (go_at_call 42; (with_reducible refine (place_Of.calls _ _ _ _ _ _ _ _ _ _ HO.out).mono ?_); rintro e w1 ⟨rfl, hb⟩; have HB1 := Aside0.mk (below_step (bel3 w _ _ _) hb); have B2 := Aside0.mk (blk_below (newBlk3a w _ _ _) hb); have B4 := Aside0.mk (blk_below (newBlk3c w _ _ _) hb); have hc := fun (o : Obj) (i : Nat) => blk_cell (blk_alloc B2.out o) i; clear hb)
        | (go_at_call 37; (with_reducible refine (move_Check.calls _ _ _ _ _ HC.out).mono ?_); rintro e w2 ⟨rfl, hb⟩; have HB2 := Aside0.mk (below_step (below_alloc HB1.out _) hb); have C4 := Aside0.mk (blk_below (blk_alloc B4.out _) hb); clear hb)
        | ((with_reducible refine gate_store (t := 28) (p := 4) (v := .tmp 24) rfl ?_); refine wpRowSt rfl 28 (.tmp 4) (.tmp 24) rfl (w.heap.size + 2) (atA 0 0) rfl rfl 28 _ (by first | exact C4.out | exact blk_alloc B4.out _) (by kernel_rfl) rfl rfl ?_))
      first
        | (refine bodyPost_ret (results_ctt rfl _ _ (w.heap.size + 2) 28 (atA 0 0) (0, 0) _ rfl (setRow_heap _ _ _ _ _ _ C4.out) Tryz.underlying28 rfl (by kernel_rfl)) rfl ?_
           exact ⟨rfl, rowBelow HB2.out (by omega) _⟩)
        | (refine bodyPost_ret (results_ctt rfl _ _ (w.heap.size + 2) 28 (atA 0 0) (0, 0) _ rfl (setRow_heap _ _ _ _ _ _ (blk_alloc B4.out _)) Tryz.underlying28 rfl (by kernel_rfl)) rfl ?_
           exact ⟨rfl, rowBelow (below_alloc HB1.out _) (by omega) _⟩)
  refine main _ _ ⟨ho⟩ ⟨hc⟩ ?_
  by_cases h1 : placeB r k = true
  · right
    exact ⟨if_pos h1, if_neg (fun h2 => h ⟨h1, h2⟩)⟩
  · left
    exact if_neg h1
theorem spot_row (a b c r k p q s t : Int) (w : World) (HO : Aside0 (place_Of.f r k r k = some (p, q, s, t, 0))) (HC : Aside0 (move_Check.f a b c = some 0)) (HR : Aside0 (move_rows.f a b c = some true)) (hx : stepF a b c r = 0) :
  Calls Tryz.prog 22 #[.agg (edA a b c), .agg (atA r k)] w fun e w' => e = .returned (.tuple #[.agg (atA (stepV a b c r) k), .int .i64 0, .int .i64 0]) ∧ Below w.heap.size w w' := by
 have HF := Aside0.mk hx
 have hne : w.heap.size ≠ w.heap.size + 1 := by omega
 have hne2 : w.heap.size + 2 ≠ w.heap.size + 1 := by omega
 have HS := Aside0.mk fun (W : World) (h : W.heap[w.heap.size + 1]? = some (.cells (atA r k) 28 (0, 0))) => step_calls a b c r (w.heap.size + 1) 0 (atA r k) 28 W h rfl
 rw [hx] at HS
 go_enter Tryz.func22, Tryz.ntmps22
 go_wp2_with (first
  | (go_at_call 42; (with_reducible refine (place_Of.calls _ _ _ _ _ _ _ _ _ _ HO.out).mono ?_); rintro e w1 ⟨rfl, hb⟩; have HB1 := Aside0.mk (below_step (bel3 w _ _ _) hb); have B2 := Aside0.mk (blk_below (newBlk3a w _ _ _) hb); have B3 := Aside0.mk (blk_below (newBlk3b w _ _ _) hb); have B4 := Aside0.mk (blk_below (newBlk3c w _ _ _) hb); have hc := fun (o : Obj) (i : Nat) => blk_cell (blk_alloc B2.out o) i; clear hb)
  | (go_at_call 37; (with_reducible refine (move_Check.calls _ _ _ _ _ HC.out).mono ?_); rintro e w2 ⟨rfl, hb⟩; have HB2 := Aside0.mk (below_step (below_alloc HB1.out _) hb); have C2 := Aside0.mk (blk_below (blk_alloc B2.out _) hb); have C3 := Aside0.mk (blk_below (blk_alloc B3.out _) hb); have C4 := Aside0.mk (blk_below (blk_alloc B4.out _) hb); clear hc hb; have hc := fun (i : Nat) => blk_cell C2.out i)
  | (go_at_call 43; (with_reducible refine (move_rows.calls _ _ _ _ _ HR.out).mono ?_); rintro e w3 ⟨rfl, hb⟩; have HB3 := Aside0.mk (below_step HB2.out hb); have D2 := Aside0.mk (blk_below C2.out hb); have D3 := Aside0.mk (blk_below C3.out hb); have D4 := Aside0.mk (blk_below C4.out hb); clear hc hb; have hc := fun (i : Nat) => blk_cell D2.out i)
  | (go_at_call 44; (with_reducible refine (HS.out _ D3.out).mono ?_); rintro e w4 ⟨rfl, hb⟩; have hbp := put_below hb; have HB4 := Aside0.mk (below_step (below_set HB3.out (Nat.le_succ _)) hbp); have E3 := Aside0.mk (blk_below (blk_put D3.out 0 _ (cs' := (atA (stepV a b c r) k)) rfl) hbp); have E4 := Aside0.mk (blk_below (blk_far (p := ⟨w.heap.size + 1, 0, none⟩) D4.out hne2 _) hbp); clear hc hb hbp; have hc := fun (i : Nat) => blk_cell E3.out i)
  | ((with_reducible refine gate_store (t := 28) (p := 4) (v := .tmp 36) rfl ?_); refine wpRowSt rfl 28 (.tmp 4) (.tmp 36) rfl (w.heap.size + 2) (atA (stepV a b c r) k) rfl rfl 28 _ E4.out (by kernel_rfl) rfl rfl ?_))
 refine bodyPost_ret (results_ctt rfl _ _ (w.heap.size + 2) 28 (atA (stepV a b c r) k) (0, 0) _ rfl (setRow_heap _ _ _ _ _ _ E4.out) Tryz.underlying28 rfl (by kernel_rfl)) rfl ?_
 exact ⟨rfl, rowBelow HB4.out (by omega) _⟩
theorem spot_row_off (a b c r k p q s t x : Int) (w : World) (HO : Aside0 (place_Of.f r k r k = some (p, q, s, t, 0))) (HC : Aside0 (move_Check.f a b c = some 0)) (HR : Aside0 (move_rows.f a b c = some true)) (HX : Aside0 (stepF a b c r = x)) (hx : ¬stepF a b c r = 0) :
  Calls Tryz.prog 22 #[.agg (edA a b c), .agg (atA r k)] w fun e w' => e = .returned (.tuple #[.agg (atA 0 0), .int .i64 x, .int .i64 0]) ∧ Below w.heap.size w w' := by
 have hx0 : ¬x = 0 := by rw [← HX.out]; exact hx
 clear hx
 have HF := Aside0.mk HX.out
 have hne : w.heap.size ≠ w.heap.size + 1 := by omega
 have hne2 : w.heap.size + 2 ≠ w.heap.size + 1 := by omega
 have HS := Aside0.mk fun (W : World) (h : W.heap[w.heap.size + 1]? = some (.cells (atA r k) 28 (0, 0))) => step_calls a b c r (w.heap.size + 1) 0 (atA r k) 28 W h rfl
 rw [HX.out] at HS
 go_enter Tryz.func22, Tryz.ntmps22
 go_wp2_with (first
  | (go_at_call 42; (with_reducible refine (place_Of.calls _ _ _ _ _ _ _ _ _ _ HO.out).mono ?_); rintro e w1 ⟨rfl, hb⟩; have HB1 := Aside0.mk (below_step (bel3 w _ _ _) hb); have B2 := Aside0.mk (blk_below (newBlk3a w _ _ _) hb); have B3 := Aside0.mk (blk_below (newBlk3b w _ _ _) hb); have B4 := Aside0.mk (blk_below (newBlk3c w _ _ _) hb); have hc := fun (o : Obj) (i : Nat) => blk_cell (blk_alloc B2.out o) i; clear hb)
  | (go_at_call 37; (with_reducible refine (move_Check.calls _ _ _ _ _ HC.out).mono ?_); rintro e w2 ⟨rfl, hb⟩; have HB2 := Aside0.mk (below_step (below_alloc HB1.out _) hb); have C2 := Aside0.mk (blk_below (blk_alloc B2.out _) hb); have C3 := Aside0.mk (blk_below (blk_alloc B3.out _) hb); have C4 := Aside0.mk (blk_below (blk_alloc B4.out _) hb); clear hc hb; have hc := fun (i : Nat) => blk_cell C2.out i)
  | (go_at_call 43; (with_reducible refine (move_rows.calls _ _ _ _ _ HR.out).mono ?_); rintro e w3 ⟨rfl, hb⟩; have HB3 := Aside0.mk (below_step HB2.out hb); have D2 := Aside0.mk (blk_below C2.out hb); have D3 := Aside0.mk (blk_below C3.out hb); have D4 := Aside0.mk (blk_below C4.out hb); clear hc hb; have hc := fun (i : Nat) => blk_cell D2.out i)
  | (go_at_call 44; (with_reducible refine (HS.out _ D3.out).mono ?_); rintro e w4 ⟨rfl, hb⟩; have hbp := put_below hb; have HB4 := Aside0.mk (below_step (below_set HB3.out (Nat.le_succ _)) hbp); have E3 := Aside0.mk (blk_below (blk_put D3.out 0 _ (cs' := (atA (stepV a b c r) k)) rfl) hbp); have E4 := Aside0.mk (blk_below (blk_far (p := ⟨w.heap.size + 1, 0, none⟩) D4.out hne2 _) hbp); clear hc hb hbp; have hc := fun (i : Nat) => blk_cell E3.out i)
  | ((with_reducible refine gate_store (t := 28) (p := 4) (v := .tmp 34) rfl ?_); refine wpRowSt rfl 28 (.tmp 4) (.tmp 34) rfl (w.heap.size + 2) (atA 0 0) rfl rfl 28 _ E4.out (by kernel_rfl) rfl rfl ?_))
 refine bodyPost_ret (results_ctt rfl _ _ (w.heap.size + 2) 28 (atA 0 0) (0, 0) _ rfl (setRow_heap _ _ _ _ _ _ E4.out) Tryz.underlying28 rfl (by kernel_rfl)) rfl ?_
 exact ⟨rfl, rowBelow HB4.out (by omega) _⟩
theorem spot_col (a b c r k p q s t : Int) (w : World) (HO : Aside0 (place_Of.f r k r k = some (p, q, s, t, 0))) (HC : Aside0 (move_Check.f a b c = some 0)) (HR : Aside0 (move_rows.f a b c = some false)) (hx : stepF a b c k = 0) :
  Calls Tryz.prog 22 #[.agg (edA a b c), .agg (atA r k)] w fun e w' => e = .returned (.tuple #[.agg (atA r (stepV a b c k)), .int .i64 0, .int .i64 0]) ∧ Below w.heap.size w w' := by
 have HF := Aside0.mk hx
 have hne : w.heap.size ≠ w.heap.size + 1 := by omega
 have hne2 : w.heap.size + 2 ≠ w.heap.size + 1 := by omega
 have HS := Aside0.mk fun (W : World) (h : W.heap[w.heap.size + 1]? = some (.cells (atA r k) 28 (0, 0))) => step_calls a b c k (w.heap.size + 1) 1 (atA r k) 28 W h rfl
 rw [hx] at HS
 go_enter Tryz.func22, Tryz.ntmps22
 go_wp2_with (first
  | (go_at_call 42; (with_reducible refine (place_Of.calls _ _ _ _ _ _ _ _ _ _ HO.out).mono ?_); rintro e w1 ⟨rfl, hb⟩; have HB1 := Aside0.mk (below_step (bel3 w _ _ _) hb); have B2 := Aside0.mk (blk_below (newBlk3a w _ _ _) hb); have B3 := Aside0.mk (blk_below (newBlk3b w _ _ _) hb); have B4 := Aside0.mk (blk_below (newBlk3c w _ _ _) hb); have hc := fun (o : Obj) (i : Nat) => blk_cell (blk_alloc B2.out o) i; clear hb)
  | (go_at_call 37; (with_reducible refine (move_Check.calls _ _ _ _ _ HC.out).mono ?_); rintro e w2 ⟨rfl, hb⟩; have HB2 := Aside0.mk (below_step (below_alloc HB1.out _) hb); have C2 := Aside0.mk (blk_below (blk_alloc B2.out _) hb); have C3 := Aside0.mk (blk_below (blk_alloc B3.out _) hb); have C4 := Aside0.mk (blk_below (blk_alloc B4.out _) hb); clear hc hb; have hc := fun (i : Nat) => blk_cell C2.out i)
  | (go_at_call 43; (with_reducible refine (move_rows.calls _ _ _ _ _ HR.out).mono ?_); rintro e w3 ⟨rfl, hb⟩; have HB3 := Aside0.mk (below_step HB2.out hb); have D2 := Aside0.mk (blk_below C2.out hb); have D3 := Aside0.mk (blk_below C3.out hb); have D4 := Aside0.mk (blk_below C4.out hb); clear hc hb; have hc := fun (i : Nat) => blk_cell D2.out i)
  | (go_at_call 44; (with_reducible refine (HS.out _ D3.out).mono ?_); rintro e w4 ⟨rfl, hb⟩; have hbp := put_below hb; have HB4 := Aside0.mk (below_step (below_set HB3.out (Nat.le_succ _)) hbp); have E3 := Aside0.mk (blk_below (blk_put D3.out 1 _ (cs' := (atA r (stepV a b c k))) rfl) hbp); have E4 := Aside0.mk (blk_below (blk_far (p := ⟨w.heap.size + 1, 1, none⟩) D4.out hne2 _) hbp); clear hc hb hbp; have hc := fun (i : Nat) => blk_cell E3.out i)
  | ((with_reducible refine gate_store (t := 28) (p := 4) (v := .tmp 36) rfl ?_); refine wpRowSt rfl 28 (.tmp 4) (.tmp 36) rfl (w.heap.size + 2) (atA r (stepV a b c k)) rfl rfl 28 _ E4.out (by kernel_rfl) rfl rfl ?_))
 refine bodyPost_ret (results_ctt rfl _ _ (w.heap.size + 2) 28 (atA r (stepV a b c k)) (0, 0) _ rfl (setRow_heap _ _ _ _ _ _ E4.out) Tryz.underlying28 rfl (by kernel_rfl)) rfl ?_
 exact ⟨rfl, rowBelow HB4.out (by omega) _⟩
theorem spot_col_off (a b c r k p q s t x : Int) (w : World) (HO : Aside0 (place_Of.f r k r k = some (p, q, s, t, 0))) (HC : Aside0 (move_Check.f a b c = some 0)) (HR : Aside0 (move_rows.f a b c = some false)) (HX : Aside0 (stepF a b c k = x)) (hx : ¬stepF a b c k = 0) :
  Calls Tryz.prog 22 #[.agg (edA a b c), .agg (atA r k)] w fun e w' => e = .returned (.tuple #[.agg (atA 0 0), .int .i64 x, .int .i64 0]) ∧ Below w.heap.size w w' := by
 have hx0 : ¬x = 0 := by rw [← HX.out]; exact hx
 clear hx
 have HF := Aside0.mk HX.out
 have hne : w.heap.size ≠ w.heap.size + 1 := by omega
 have hne2 : w.heap.size + 2 ≠ w.heap.size + 1 := by omega
 have HS := Aside0.mk fun (W : World) (h : W.heap[w.heap.size + 1]? = some (.cells (atA r k) 28 (0, 0))) => step_calls a b c k (w.heap.size + 1) 1 (atA r k) 28 W h rfl
 rw [HX.out] at HS
 go_enter Tryz.func22, Tryz.ntmps22
 go_wp2_with (first
  | (go_at_call 42; (with_reducible refine (place_Of.calls _ _ _ _ _ _ _ _ _ _ HO.out).mono ?_); rintro e w1 ⟨rfl, hb⟩; have HB1 := Aside0.mk (below_step (bel3 w _ _ _) hb); have B2 := Aside0.mk (blk_below (newBlk3a w _ _ _) hb); have B3 := Aside0.mk (blk_below (newBlk3b w _ _ _) hb); have B4 := Aside0.mk (blk_below (newBlk3c w _ _ _) hb); have hc := fun (o : Obj) (i : Nat) => blk_cell (blk_alloc B2.out o) i; clear hb)
  | (go_at_call 37; (with_reducible refine (move_Check.calls _ _ _ _ _ HC.out).mono ?_); rintro e w2 ⟨rfl, hb⟩; have HB2 := Aside0.mk (below_step (below_alloc HB1.out _) hb); have C2 := Aside0.mk (blk_below (blk_alloc B2.out _) hb); have C3 := Aside0.mk (blk_below (blk_alloc B3.out _) hb); have C4 := Aside0.mk (blk_below (blk_alloc B4.out _) hb); clear hc hb; have hc := fun (i : Nat) => blk_cell C2.out i)
  | (go_at_call 43; (with_reducible refine (move_rows.calls _ _ _ _ _ HR.out).mono ?_); rintro e w3 ⟨rfl, hb⟩; have HB3 := Aside0.mk (below_step HB2.out hb); have D2 := Aside0.mk (blk_below C2.out hb); have D3 := Aside0.mk (blk_below C3.out hb); have D4 := Aside0.mk (blk_below C4.out hb); clear hc hb; have hc := fun (i : Nat) => blk_cell D2.out i)
  | (go_at_call 44; (with_reducible refine (HS.out _ D3.out).mono ?_); rintro e w4 ⟨rfl, hb⟩; have hbp := put_below hb; have HB4 := Aside0.mk (below_step (below_set HB3.out (Nat.le_succ _)) hbp); have E3 := Aside0.mk (blk_below (blk_put D3.out 1 _ (cs' := (atA r (stepV a b c k))) rfl) hbp); have E4 := Aside0.mk (blk_below (blk_far (p := ⟨w.heap.size + 1, 1, none⟩) D4.out hne2 _) hbp); clear hc hb hbp; have hc := fun (i : Nat) => blk_cell E3.out i)
  | ((with_reducible refine gate_store (t := 28) (p := 4) (v := .tmp 34) rfl ?_); refine wpRowSt rfl 28 (.tmp 4) (.tmp 34) rfl (w.heap.size + 2) (atA 0 0) rfl rfl 28 _ E4.out (by kernel_rfl) rfl rfl ?_))
 refine bodyPost_ret (results_ctt rfl _ _ (w.heap.size + 2) 28 (atA 0 0) (0, 0) _ rfl (setRow_heap _ _ _ _ _ _ E4.out) Tryz.underlying28 rfl (by kernel_rfl)) rfl ?_
 exact ⟨rfl, rowBelow HB4.out (by omega) _⟩
theorem spot_calls (a b c r k : Int) (w : World) :
  Calls Tryz.prog 22 #[.agg (edA a b c), .agg (atA r k)] w fun e w' => e = .returned (.tuple #[.agg (atA (spotS a b c r k).1.1 (spotS a b c r k).1.2), .int .i64 (spotS a b c r k).2.1, .int .i64 (spotS a b c r k).2.2]) ∧ Below w.heap.size w w' := by
 unfold spotS
 by_cases h : placeB r k = true ∧ edB a b c = true
 ·rw [if_pos h]
  obtain ⟨p, q, s, t, ho⟩ := placeOf_same r k
  rw [if_pos h.1] at ho
  have hc := moveCheck_B a b c
  rw [if_pos h.2] at hc
  cases hr : rowsB a with
  | true =>
   rw [if_pos rfl]
   by_cases hf : stepF a b c r = 0
   ·rw [if_pos hf]
    exact spot_row a b c r k p q s t w ⟨ho⟩ ⟨hc⟩ ⟨by rw [rows_B, hr]⟩ hf
   ·rw [if_neg hf]
    exact spot_row_off a b c r k p q s t _ w ⟨ho⟩ ⟨hc⟩ ⟨by rw [rows_B, hr]⟩ ⟨rfl⟩ hf
  | false =>
   rw [if_neg (by simp)]
   by_cases hf : stepF a b c k = 0
   ·rw [if_pos hf]
    exact spot_col a b c r k p q s t w ⟨ho⟩ ⟨hc⟩ ⟨by rw [rows_B, hr]⟩ hf
   ·rw [if_neg hf]
    exact spot_col_off a b c r k p q s t _ w ⟨ho⟩ ⟨hc⟩ ⟨by rw [rows_B, hr]⟩ ⟨rfl⟩ hf
 ·rw [if_neg h]
  exact spot_no a b c r k w h
def moved11.T11 : Bool × List (List Nat × List Nat) := (true, [([], []), ([0], [0]), ([1], [1]), ([], []), ([3], [3]), ([4], [4]), ([], []), ([], []), ([6, 2, 0, 1, 2, 6, 7], [2, 6]), ([7, 5, 8, 0, 1, 2, 3, 4, 5, 6, 7, 8], [5, 7])])
def moved11.B11 : List Nat := [0, 1, 3, 0, 8, 24, 0, 0, 199, 511]
theorem moved11.tab11 : rtab .any (opsOf Tryz.f76 11) = moved11.T11 := by kernel_rfl
theorem moved11.bits11 : waitsOk moved11.T11.2 moved11.B11 = true := by kernel_rfl
end Go.Proofs.YthnldbclbfpojaaGreatDoor.Pr
end
