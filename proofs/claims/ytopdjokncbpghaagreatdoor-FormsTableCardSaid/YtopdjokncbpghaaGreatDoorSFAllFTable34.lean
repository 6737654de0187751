/-
  Lemmas for the law FAllFTable.
-/
import Derived.Test.YtopdjokncbpghaaGreatDoorSFAllFTable33
import Derived.Test.YtopdjokncbpghaaGreatDoorSFAllFTable31
set_option maxHeartbeats 8000000
set_option maxRecDepth 100000
set_option linter.unusedVariables false
set_option linter.unusedSimpArgs false
section
namespace Go.Proofs.YtopdjokncbpghaaGreatDoor.Pr
open Go.RowKit Go.Shelf Go.Proofs.YtopdjokncbpghaaGreatDoorW.PrintWords Go.Proofs.YtopdjokncbpghaaGreatDoorW.PrintLast Go.Proofs.YtopdjokncbpghaaGreatDoorW.PrintMore
attribute [local go_sem] Oper.semAt_some
def callF (F : Nd → Int) (n : Nd) : Int := if n.f0 = 6 then F n else 0
theorem fcheck_go (F : Nd → Int) (n : Nd) (A : Option Addr) (c : Nat) (w : World) (hK : KidsC w A c n.f5)
  (HC : Aside0 (∀ W, Below w.heap.size w W → Calls Tryz.prog 34 #[nodeV n A c] W fun e w' => e = .returned (.int .i64 0) ∧ Below W.heap.size W w'))
  (HF : Aside0 (∀ (m : Nd) (A_ : Option Addr) (c_ : Nat) W, Below w.heap.size w W → KidsC W A_ c_ m.f5 → Calls Tryz.prog 36 #[nodeV m A_ c_] W fun e w' => e = .returned (.int .i64 (F m)) ∧ Below W.heap.size W w')) :
  CallsIn Fence.wide 5 Tryz.prog 15 #[nodeV n A c] w fun e w' => e = .returned (.int .i64 (firstE (callF F) (preN n))) ∧ Below w.heap.size w w' := by
 have HB := Aside0.mk (bel2 w (.cells (nodeA n A c) 44) (.cells #[.int .i64 0] 25))
 have B1 := Aside0.mk (blk_alloc (newBlk w (.cells (nodeA n A c) 44)) (.cells #[.int .i64 0] 25))
 have B3 := Aside0.mk (newBlk2 w (.cells (nodeA n A c) 44) (.cells #[.int .i64 0] 25))
 refine callsIn_of_wp_marks Tryz.func15 rfl trivial ?_ rfl
 simp only [Tryz.ntmps15, List.size_toArray, List.length_cons, List.length_nil, Nat.reduceAdd, Nat.reduceSub, Array.replicate_succ, Array.replicate_zero, List.push_toArray, List.append_toArray, List.nil_append, List.cons_append]
 gi_wp2_with (first
  | (refine wpPartLdIn 6 rfl rfl 44 (.tmp 1) rfl _ rfl _ (nodeA n A c) [] B1.out rfl Tryz.underlying44 rfl (by kernel_rfl) ?_)
  | ((try refine ⟨trivial, ?_⟩); gi_at_call 34; refine (callsIn_wide.2 (HC.out _ (bel2 w _ _))).mono ?_; rintro e w1 ⟨rfl, hb⟩; have HB1 := Aside0.mk (below_step HB.out hb); have C1 := Aside0.mk (blk_below B1.out hb); have C3 := Aside0.mk (blk_below B3.out hb); clear hb B1 B3 HB)
  | (refine wpPartLdIn 11 rfl rfl 44 (.tmp 1) rfl _ rfl _ (nodeA n A c) [] C1.out rfl Tryz.underlying44 rfl (by kernel_rfl) ?_)
  | ((try refine ⟨trivial, ?_⟩); gi_at_call 35; refine (callsIn_wide.2 (all_calls n A c _)).mono ?_; rintro e w2 ⟨rfl, rfl⟩))
 have bO : Boxed (w1.alloc (.cells (nodeA n A c) 44)) (w.heap.size + 1) 25 (.int .i64 0) := blk_alloc C3.out _
 have bN := newBlk w1 (.cells (nodeA n A c) 44)
 have hB0 : Below w.heap.size w (w1.alloc (.cells (nodeA n A c) 44)) := below_alloc HB1.out _
 have hsz : (w1.alloc (.cells (nodeA n A c) 44)).heap.size = w1.heap.size + 1 := by simp
 have hs2 : w.heap.size + 2 ≤ w1.heap.size := by have := blk_lt C3.out; omega
 obtain ⟨W0, hW0⟩ : ∃ W0, (w1.alloc (.cells (nodeA n A c) 44)) = W0 := ⟨_, rfl⟩
 rw [hW0] at bO bN hB0 hsz ⊢
 clear hW0
 have hg0 : GoodB (w.heap.size + 1) W0 := by
  intro b hb
  rw [ownB_boxed bO] at hb
  cases hb
 refine wpIn_rangeFunc_ownH rfl (by omega) (gf := 55) (lb := #[.pointer (some ⟨w1.heap.size, 0, none⟩)]) rfl trivial (enters_of Tryz.func55 (by kernel_rfl) rfl)
  (all_stops (w.heap.size + 1) w1.heap.size 4 w n A c W0 bN hK hB0 hg0 (by omega)) KpB.trans (fun W l o o' hl h hc hw => KpB.putObj (w := W0) (by omega) (by omega) W l o o' hl h hc hw) (Below.refl _ _) (fun _ => rfl)
  (fun pre W => (firstE (callF F) (pre.map NodeAt.nd) = 0) ∧ Boxed W (w.heap.size + 1) 25 (.int .i64 0) ∧ Below w.heap.size w W)
  (fun cd pre W => (cd = .ret ∧ ¬firstE (callF F) (pre.map NodeAt.nd) = 0) ∧ Boxed W (w.heap.size + 1) 25 (.int .i64 (firstE (callF F) (pre.map NodeAt.nd))) ∧ Below w.heap.size w W)
  (OwnFrom.and (ownFrom_pure _ _) (OwnFrom.and ((boxed_own _ _ (fun _ => Value.int .i64 0)).from _) (ownFrom_below (Nat.le_refl _) (by omega))))
  (fun cd => OwnFrom.and (ownFrom_pure _ _) (OwnFrom.and ((boxed_own _ _ (fun (pre : List (NodeAt w)) => Value.int .i64 (firstE (callF F) (pre.map NodeAt.nd)))).from _) (ownFrom_below (Nat.le_refl _) (by omega))))
  ⟨rfl, bO, hB0⟩
  (fun x a' W => ∃ Bx, W.heap[Bx]? = some (.cells (nodeA x.1.1 x.1.2.1 x.1.2.2) 44 (0, 0)) ∧ a' = { tmps := #[nodeV n A c, .pointer (some ⟨w.heap.size, 0, none⟩), .pointer (some ⟨w.heap.size + 1, 0, none⟩), .int .i64 0, .pointer (some ⟨Bx, 0, none⟩), undef, .agg (nodeA n A c), .int .i64 0, .int .i64 0, .bool false, undef, .agg (nodeA n A c), .func (.func 55) #[] #[.pointer (some ⟨w1.heap.size, 0, none⟩)], nodeV x.1.1 x.1.2.1 x.1.2.2, undef, undef, undef, undef, undef, undef, undef, undef], defers := [] })
  (fun x a' _ X Y row hs hg hr => by
   obtain ⟨Bx, h2, h3⟩ := hs
   refine ⟨Bx, blk_grown h2 hg (fun e => ?_), h3⟩
   obtain ⟨_, o, ho, hn⟩ := hr Bx e.symm
   rw [h2] at ho
   cases ho
   cases hn)
  ?assign ?body ?done ?stop
 case assign =>
  rintro l pre x W K ⟨hp, hO, hB1⟩ hK'
  gi_wp2
  have hlt := blk_lt hO
  exact hK' _ _ ((KeepsOthers.alloc _ _).from _) (KpB.alloc (by omega) hlt _) ⟨hp, blk_alloc hO _, below_alloc hB1 _⟩ ⟨W.heap.size, newBlk W _, rfl⟩
 case body =>
  rintro l pre x a' W hl ⟨r, hr⟩ ⟨hp, hO, hB1⟩ ⟨Bx, bX, rfl⟩ hlt
  have hsn : firstE (callF F) ((pre ++ [x]).map NodeAt.nd) = callF F x.1.1 := by
   rw [List.map_append, firstE_append, hp, if_pos rfl]
   show firstE (callF F) [x.1.1] = _
   rw [firstE, firstE]
   split <;> simp_all
  clear hlt
  obtain ⟨⟨m, A3, c3⟩, hx⟩ := x
  simp only at hx bX hsn ⊢
  have cX := fun (i : Nat) => blk_cell bX i
  have hlt := blk_lt hO
  have hbW := hB1
  have HX := Aside0.mk bX
  have HP := Aside0.mk (⟨hO, hB1⟩ : _ ∧ _)
  have HN := Aside0.mk hsn
  have HK := Aside0.mk (hx.below hB1)
  clear hsn hp hO hB1 bX
  by_cases hk : m.f0 = 6
  ·have k1 : (m.f0 != 6) = false := by simp [hk]
   have hv : callF F m = F m := by unfold callF; rw [if_pos hk]
   have HFm := Aside0.mk (HF.out m A3 c3)
   generalize hq : F m = q at HFm hv
   clear hk hq
   by_cases h0 : q = 0
   ·subst h0
    gi_wp2_with (first
     | (refine wpPartLdIn 17 rfl rfl 44 (.tmp 4) rfl _ rfl _ (nodeA m A3 c3) [] HX.out rfl Tryz.underlying44 rfl (by kernel_rfl) ?_)
     | ((try refine ⟨trivial, ?_⟩); gi_at_call 36; refine (CallsIn.inRound l (callsIn_wide.2 (HFm.out _ hbW HK.out))).mono ?_; rintro e V1 ⟨rfl, hb⟩; have K1 := Aside0.mk hb; clear hb))
    exact ⟨(KeepsOthers.call K1.out).from _, KpB.call hbW.size hlt K1.out, HN.out.trans hv, blk_below HP.out.1 K1.out, below_step hbW K1.out⟩
   ·have q1 : (q != 0) = true := by simp [h0]
    gi_wp2_with (first
     | (refine wpPartLdIn 17 rfl rfl 44 (.tmp 4) rfl _ rfl _ (nodeA m A3 c3) [] HX.out rfl Tryz.underlying44 rfl (by kernel_rfl) ?_)
     | ((try refine ⟨trivial, ?_⟩); gi_at_call 36; refine (CallsIn.inRound l (callsIn_wide.2 (HFm.out _ hbW HK.out))).mono ?_; rintro e V1 ⟨rfl, hb⟩; have K1 := Aside0.mk hb; have H1 := Aside0.mk (blk_below HP.out.1 hb); have cO := fun (i : Nat) => blk_cell H1.out i; have fO := fun (i : Nat) => blk_frozen H1.out i; clear hb))
    have e1 := HN.out.trans hv
    refine ⟨((KeepsOthers.call K1.out).trans (KeepsOthers.setCell _ _ _)).from _, ⟨rfl, by rw [e1]; exact h0⟩, ?_, (below_step hbW K1.out).setCell (p := ⟨w.heap.size + 1, 0, none⟩) (by show w.heap.size ≤ w.heap.size + 1; omega) _⟩
    rw [e1]
    exact (show Boxed _ _ _ _ from H1.out).set _
  ·have k1 : (m.f0 != 6) = true := by simp [hk]
   have hv : callF F m = 0 := by unfold callF; rw [if_neg hk]
   clear hk
   gi_wp2
   exact ⟨(KeepsOthers.refl _).from _, KpB.refl _ _ _, HN.out.trans hv, HP.out.1, HP.out.2⟩
 case done =>
  rintro D zs W hD hS ⟨hp, hO, hB1⟩ hKd
  rw [hS] at hp
  have cO := fun (i : Nat) => blk_cell hO i
  have fO := fun (i : Nat) => blk_frozen hO i
  gi_wp2
  have hK' := (KeepsOthers.setCell W ⟨w.heap.size + 1, 0, none⟩ (.int .i64 0)).same D _ hKd rfl
  refine ⟨by simp, .inl ⟨_, _, rfl, run_takeDeferred hK', ?_⟩⟩
  have hc5 := Boxed.cell ((boxed_own (w.heap.size + 1) 25 (fun (_ : Unit) => Value.int .i64 0)) () _ _ (some D) (hO.set (.int .i64 0)) (grownBy_putObj' _ D (.deferred none)) (fun r e => by cases e; exact ⟨_, hK', rfl⟩))
  refine ⟨.int .i64 0, ?_, by rw [hp], (hB1.setCell (p := ⟨w.heap.size + 1, 0, none⟩) (by show w.heap.size ≤ w.heap.size + 1; omega) _).trans (belowK_b (w := w) (Nat.le_refl _) _ D _ _ (by omega) hK' rfl rfl)⟩
  simp [results, Tryz.results15, go_sem, hc5]
 case stop =>
  rintro D cd pre W hD ⟨t, ht⟩ ⟨⟨rfl, hp⟩, hO, hB1⟩ hKd
  have hv : firstE (callF F) (preN n) = firstE (callF F) (pre.map NodeAt.nd) := by rw [← ht, firstE_append, if_neg hp]
  generalize firstE (callF F) (pre.map NodeAt.nd) = q at hO hv
  gi_wp2
  refine ⟨by simp, .inl ⟨_, _, rfl, run_takeDeferred hKd, ?_⟩⟩
  have hc5 := Boxed.cell ((boxed_own (w.heap.size + 1) 25 (fun (_ : Unit) => Value.int .i64 q)) () _ _ (some D) hO (grownBy_putObj' _ D (.deferred none)) (fun r e => by cases e; exact ⟨_, hKd, rfl⟩))
  refine ⟨.int .i64 q, ?_, by rw [hv], hB1.trans (belowK_b (w := w) (Nat.le_refl _) _ D _ _ (by omega) hKd rfl rfl)⟩
  simp [results, Tryz.results15, go_sem, hc5]
theorem fcheck_bad (n : Nd) (A : Option Addr) (c : Nat) (q : Int) (hq : ¬q = 0) (w : World)
  (HC : Aside0 (∀ W, Below w.heap.size w W → Calls Tryz.prog 34 #[nodeV n A c] W fun e w' => e = .returned (.int .i64 q) ∧ Below W.heap.size W w')) :
  Calls Tryz.prog 15 #[nodeV n A c] w fun e w' => e = .returned (.int .i64 q) ∧ Below w.heap.size w w' := by
 have HB := Aside0.mk (bel2 w (.cells (nodeA n A c) 44) (.cells #[.int .i64 0] 25))
 have B1 := Aside0.mk (blk_alloc (newBlk w (.cells (nodeA n A c) 44)) (.cells #[.int .i64 0] 25))
 have B3 := Aside0.mk (newBlk2 w (.cells (nodeA n A c) 44) (.cells #[.int .i64 0] 25))
 have q1 : (q != 0) = true := by simp [hq]
 go_enter Tryz.func15, Tryz.ntmps15
 go_wp2_with (first
  | ((with_reducible refine gate_dst (N := 6) rfl ?_); refine wpPartLd 6 rfl rfl 44 (.tmp 1) rfl _ rfl _ (nodeA n A c) [] B1.out rfl Tryz.underlying44 rfl (by kernel_rfl) ?_)
  | (go_at_call 34; (with_reducible refine (HC.out _ (bel2 w _ _)).mono ?_); rintro e w1 ⟨rfl, hb⟩; have HB1 := Aside0.mk (below_step HB.out hb); have C3 := Aside0.mk (blk_below B3.out hb); have cO := fun (i : Nat) => blk_cell C3.out i; have fO := fun (i : Nat) => blk_frozen C3.out i; clear hb))
 have hc5 := Boxed.cell (t := 25) ((show Boxed w1 (w.heap.size + 1) 25 (.int .i64 0) from C3.out).set (.int .i64 q))
 refine bodyPost_ret (v := .int .i64 q) ?_ rfl ⟨rfl, HB1.out.setCell (p := ⟨w.heap.size + 1, 0, none⟩) (by show w.heap.size ≤ w.heap.size + 1; omega) _⟩
 simp [results, Tryz.results15, go_sem, hc5]
end Go.Proofs.YtopdjokncbpghaaGreatDoor.Pr
end
