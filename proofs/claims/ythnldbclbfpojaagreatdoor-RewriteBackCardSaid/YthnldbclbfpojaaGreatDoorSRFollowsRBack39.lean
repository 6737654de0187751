/-
  Lemmas for the law RFollowsRBack.
-/
import Derived.Test.YthnldbclbfpojaaGreatDoorSRFollowsRBack35
import Derived.Test.YthnldbclbfpojaaGreatDoorSRFollowsRBack38
import Derived.Test.YthnldbclbfpojaaGreatDoorSRFollowsRBack18
import Derived.RangeFuncNested
set_option maxHeartbeats 8000000
set_option maxRecDepth 100000
set_option linter.unusedVariables false
set_option linter.unusedSimpArgs false
section
namespace Go.Proofs.YthnldbclbfpojaaGreatDoor.Pr
open Go.RowKit Go.Shelf Go.Proofs.YthnldbclbfpojaaGreatDoorW.PrintWords Go.Proofs.YthnldbclbfpojaaGreatDoorW.PrintLast Go.Proofs.YthnldbclbfpojaaGreatDoorW.PrintMore
attribute [local go_sem] Oper.semAt_some
theorem rects_go (n : Nd) (A : Option Addr) (c : Nat) (w : World) (hK : KidsC w A c n.f5) (hlen : (preN n).length ≤ 4096)
  (HC : Aside0 (∀ W, Below w.heap.size w W → Calls Tryz.prog 30 #[nodeV n A c] W fun e w' => e = .returned (.int .i64 0) ∧ Below W.heap.size W w')) :
  CallsIn Fence.wide 5 Tryz.prog 23 #[nodeV n A c] w fun e w' => (∃ A2 c2, e = .returned (.tuple #[.slice A2 (outS (preN n)).length c2, .int .i64 0]) ∧ (outS (preN n)).length ≤ c2 ∧ Kd.C k64 w' A2 (outS (preN n)).length (outS (preN n)) ∧ Kd.R k64 64 w' w.heap.size (fun _ => True) (.slice A2 (outS (preN n)).length c2) (outS (preN n))) ∧ Below w.heap.size w w' := by
 have HB := Aside0.mk (bel1 w (.cells (nodeA n A c) 33))
 have B1 := Aside0.mk (newBlk w (.cells (nodeA n A c) 33))
 refine callsIn_of_wp_marks Tryz.func23 rfl trivial ?_ rfl
 simp only [Tryz.ntmps23, List.size_toArray, List.length_cons, List.length_nil, Nat.reduceAdd, Nat.reduceSub, Array.replicate_succ, Array.replicate_zero, List.push_toArray, List.append_toArray, List.nil_append, List.cons_append]
 gi_wp2_with (first
  | (refine wpPartLdIn 8 rfl rfl 33 (.tmp 1) rfl _ rfl _ (nodeA n A c) [] B1.out rfl Tryz.underlying33 rfl (by kernel_rfl) ?_)
  | ((try refine ⟨trivial, ?_⟩); gi_at_call 30; refine (callsIn_wide.2 (HC.out _ (bel1 w _))).mono ?_; rintro e w1 ⟨rfl, hb⟩; have HB1 := Aside0.mk (below_step HB.out hb); have B2 := Aside0.mk (blk_below B1.out hb); clear hb B1 HB)
  | (refine wpPartLdIn 13 rfl rfl 33 (.tmp 1) rfl _ rfl _ (nodeA n A c) [] (blk_alloc B2.out _) rfl Tryz.underlying33 rfl (by kernel_rfl) ?_)
  | ((try refine ⟨trivial, ?_⟩); gi_at_call 45; refine (callsIn_wide.2 (all_calls n A c _)).mono ?_; rintro e w2 ⟨rfl, rfl⟩))
 have bO := (Boxed.new w1 59 (.slice none 0 0)).alloc (.cells (nodeA n A c) 33)
 have bN := newBlk2 w1 (.cells #[.slice none 0 0] 59) (.cells (nodeA n A c) 33)
 have hB0 : Below w.heap.size w ((w1.alloc (.cells #[.slice none 0 0] 59)).alloc (.cells (nodeA n A c) 33)) := below_alloc (below_alloc HB1.out _) _
 have hsz : ((w1.alloc (.cells #[.slice none 0 0] 59)).alloc (.cells (nodeA n A c) 33)).heap.size = w1.heap.size + 2 := by simp
 obtain ⟨W0, hW0⟩ : ∃ W0, ((w1.alloc (.cells #[.slice none 0 0] 59)).alloc (.cells (nodeA n A c) 33)) = W0 := ⟨_, rfl⟩
 rw [hW0] at bO bN hB0 hsz ⊢
 clear hW0
 have hs1 := HB1.out.size
 have hg0 : GoodB w1.heap.size W0 := by
  intro b hb
  rw [ownB_boxed bO] at hb
  cases hb
 refine wpIn_rangeFunc_ownH rfl (by omega) (gf := 78) (lb := #[.pointer (some ⟨w1.heap.size + 1, 0, none⟩)]) rfl trivial (enters_of Tryz.func78 (by kernel_rfl) rfl)
  (all_stops w1.heap.size (w1.heap.size + 1) 4 w n A c W0 bN hK hB0 hg0 (by omega)) KpB.trans (fun W l o o' hl h hc hw => KpB.putObj (w := W0) (by omega) (by omega) W l o o' hl h hc hw) (Below.refl _ _) (fun _ => rfl)
  (fun pre W => HoldR w1.heap.size (outS (pre.map NodeAt.nd)) W ∧ Below w.heap.size w W)
  (fun _ _ _ => False)
  (OwnFrom.and (HoldR.own _ _ _) (ownFrom_below (Nat.le_refl _) (by omega)))
  (fun _ _ _ _ _ hs _ _ => hs)
  ⟨⟨_, bO, Kd.R_nil _ _ _ _ _⟩, hB0⟩
  (fun x a' W => ∃ Bx, w1.heap.size < Bx ∧ W.heap[Bx]? = some (.cells (nodeA x.1.1 x.1.2.1 x.1.2.2) 33 (0, 0)) ∧ a' = { tmps := #[nodeV n A c, .pointer (some ⟨w.heap.size, 0, none⟩), .slice none 0 0, .int .i64 0, .int .i64 0, .pointer (some ⟨w1.heap.size, 0, none⟩), .pointer (some ⟨Bx, 0, none⟩), undef, .agg (nodeA n A c), .int .i64 0, .int .i64 0, .bool false, undef, .agg (nodeA n A c), .func (.func 78) #[] #[.pointer (some ⟨w1.heap.size + 1, 0, none⟩)], nodeV x.1.1 x.1.2.1 x.1.2.2, undef, undef, undef, undef, undef, undef, undef, undef, undef, undef, undef, undef, undef, undef], defers := [] })
  (fun x a' _ X Y row hs hg hr => by
   obtain ⟨Bx, h1, h2, h3⟩ := hs
   refine ⟨Bx, h1, blk_grown h2 hg (fun e => ?_), h3⟩
   obtain ⟨_, o, ho, hn⟩ := hr Bx e.symm
   rw [h2] at ho
   cases ho
   cases hn)
  ?assign ?body ?done ?stop
 case assign =>
  rintro l pre x W K ⟨hH, hB1⟩ hK'
  gi_wp2
  have hBlt : w1.heap.size < W.heap.size := by obtain ⟨v, hv, _⟩ := hH; exact hv.lt
  exact hK' _ _ ((KeepsOthers.alloc _ _).from _) (KpB.alloc (by omega) hBlt _) ⟨hH.below (below_alloc (Below.refl _ _) _), below_alloc hB1 _⟩ ⟨W.heap.size, hBlt, newBlk W _, rfl⟩
 case body =>
  rintro l pre x a' W hl ⟨r, hr⟩ ⟨hH, hB1⟩ ⟨Bx, hBx, bX, rfl⟩ hlt
  have hlo : (outS (pre.map NodeAt.nd)).length < 4096 := by
   have := outS_length (pre.map NodeAt.nd)
   rw [List.length_map] at this
   omega
  have hsn : outS ((pre ++ [x]).map NodeAt.nd) = addS (outS (pre.map NodeAt.nd)) x.1.1 := by rw [List.map_append, List.map_singleton, outS_snoc]
  have hBlt : w1.heap.size < W.heap.size := by obtain ⟨v, hv, _⟩ := hH; exact hv.lt
  clear hlt
  obtain ⟨⟨m, A3, c3⟩, hx⟩ := x
  simp only at hx bX hsn ⊢
  generalize outS (pre.map NodeAt.nd) = out at hH hlo hsn
  have HG := Aside0.mk fun (V : World) (h : Below w.heap.size w V) => ranged_calls m A3 c3 V (hx.below h)
  have HF := Aside0.mk fun (V : World) => frect_calls m A3 c3 V
  have hbW := hB1
  by_cases hg : rgB m = true
  ·rw [hg] at HG
   unfold addS at hsn
   rw [if_pos hg] at hsn
   have hq : Value.agg (rcA (fR m).t (fR m).l (fR m).o (fR m).r) = .agg #[.int .i64 (rcS m).f0, .int .i64 (rcS m).f1, .int .i64 (rcS m).f2, .int .i64 (rcS m).f3] := rfl
   rw [hq] at HF
   clear hq
   generalize rcS m = q at HF hsn
   obtain ⟨v, hBx1, hR⟩ := hH
   obtain ⟨A2, c2, rfl, hle, _⟩ := Kd.R_reads hR
   have H1 := Aside0.mk hBx1
   have H2 := Aside0.mk hR
   have HX := Aside0.mk bX
   have HW := Aside0.mk hB1
   have HM := Aside0.mk fun (V : World) (hc : Kd.C k64 V A2 out.length out) => contains_calls out q A2 c2 (by omega) V hc hle
   clear hBx1 hR bX hB1
   by_cases hm : q ∈ out
   ·rw [if_pos hm] at hsn
    have HN := Aside0.mk hsn
    clear hsn
    gi_wp2_with (first
     | (refine wpPartLdIn 16 rfl rfl 33 (.tmp 6) rfl _ rfl _ (nodeA m A3 c3) [] HX.out rfl Tryz.underlying33 rfl (by kernel_rfl) ?_)
     | ((try refine ⟨trivial, ?_⟩); gi_at_call 46; refine (CallsIn.inRound l (callsIn_wide.2 (HG.out _ hbW))).mono ?_; rintro e V1 ⟨rfl, hb⟩; have K1 := Aside0.mk hb; have X1 := Aside0.mk (blk_below HX.out hb); clear hb)
     | (refine wpPartLdIn 19 rfl rfl 33 (.tmp 6) rfl _ rfl _ (nodeA m A3 c3) [] X1.out rfl Tryz.underlying33 rfl (by kernel_rfl) ?_)
     | ((try refine ⟨trivial, ?_⟩); gi_at_call 47; refine (CallsIn.inRound l (callsIn_wide.2 (HF.out _))).mono ?_; rintro e V2 ⟨rfl, hb⟩; have K2 := Aside0.mk (below_step K1.out hb); have H3 := Aside0.mk (blk_below H1.out (below_step K1.out hb)); have H4 := Aside0.mk (Kd.R_below H2.out (below_step K1.out hb)); clear hb; have cO := fun (o : Obj) (i : Nat) => blk_cell (blk_alloc H3.out o) i)
     | ((try refine ⟨trivial, ?_⟩); gi_at_call 48; refine (CallsIn.inRound l (callsIn_wide.2 (HM.out _ (Kd.R_reads' (Kd.R_alloc H4.out _)).2.2))).mono ?_; rintro e V3 ⟨⟨b, rfl, hb3⟩, hb⟩; have hbt := hb3.2 hm; subst hbt; have K3 := Aside0.mk hb; clear hb hb3))
    have K4 := below_step (below_alloc K2.out _) K3.out
    exact ⟨(KeepsOthers.call K4).from _, KpB.call hbW.size hBlt K4, by show HoldR _ (outS _) _; rw [HN.out]; exact ⟨_, blk_below H1.out K4, Kd.R_below H2.out K4⟩, hbW.trans (K4.mono hbW.size)⟩
   ·rw [if_neg hm] at hsn
    have HN := Aside0.mk hsn
    clear hsn
    gi_wp2_with (first
     | (refine wpPartLdIn 16 rfl rfl 33 (.tmp 6) rfl _ rfl _ (nodeA m A3 c3) [] HX.out rfl Tryz.underlying33 rfl (by kernel_rfl) ?_)
     | ((try refine ⟨trivial, ?_⟩); gi_at_call 46; refine (CallsIn.inRound l (callsIn_wide.2 (HG.out _ hbW))).mono ?_; rintro e V1 ⟨rfl, hb⟩; have K1 := Aside0.mk hb; have X1 := Aside0.mk (blk_below HX.out hb); clear hb)
     | (refine wpPartLdIn 19 rfl rfl 33 (.tmp 6) rfl _ rfl _ (nodeA m A3 c3) [] X1.out rfl Tryz.underlying33 rfl (by kernel_rfl) ?_)
     | ((try refine ⟨trivial, ?_⟩); gi_at_call 47; refine (CallsIn.inRound l (callsIn_wide.2 (HF.out _))).mono ?_; rintro e V2 ⟨rfl, hb⟩; have K2 := Aside0.mk (below_step K1.out hb); have H3 := Aside0.mk (blk_below H1.out (below_step K1.out hb)); have H4 := Aside0.mk (Kd.R_below H2.out (below_step K1.out hb)); clear hb; have cO := fun (o : Obj) (i : Nat) => blk_cell (blk_alloc H3.out o) i)
     | ((try refine ⟨trivial, ?_⟩); gi_at_call 48; refine (CallsIn.inRound l (callsIn_wide.2 (HM.out _ (Kd.R_reads' (Kd.R_alloc H4.out _)).2.2))).mono ?_; rintro e V3 ⟨⟨b, rfl, hb3⟩, hb⟩; have hbt : b = false := Bool.eq_false_iff.2 (fun h => hm (hb3.1 h)); subst hbt; have K4 := Aside0.mk (below_step (below_alloc K2.out _) hb); have H5 := Aside0.mk (blk_below (blk_alloc H3.out _) hb); have H6 := Aside0.mk (Kd.R_below (Kd.R_alloc H4.out _) hb); have cV := fun (i : Nat) => blk_cell H5.out i; have cQ := fun (i : Nat) => blk_cell (blk_below (newBlk V2 (.cells #[.int .i64 q.f0, .int .i64 q.f1, .int .i64 q.f2, .int .i64 q.f3] 64)) hb) i; clear hb hb3 cO)
     | (gi_at_builtin; refine R_appendIn k64 w1.heap.size rfl (.tmp 25) (.tmp 27) 59 64 (.agg #[(.int .i64 0), (.int .i64 0), (.int .i64 0), (.int .i64 0)]) 32 rfl Tryz.underlying59 info64 rfl (by decide) (by omega) (.slice A2 out.length c2) out q [.int .i64 q.f0, .int .i64 q.f1, .int .i64 q.f2, .int .i64 q.f3] (fun k => k ≠ w1.heap.size) (fun _ => False) rfl rfl (k64_mkM _ _ _ q) (fun _ hk => hk.elim) (fun k hk => by have := blk_lt H5.out; omega) H6.out (Nat.le_of_lt (blk_lt H5.out)) (by omega) ?_; intro v1 V4 hR1 hg1 hat1; obtain ⟨A4, c4, rfl⟩ := Kd.R_slice hR1; have R1 := Aside0.mk hR1; have G1 := Aside0.mk hg1; have T1 := Aside0.mk hat1; have cB := fun (i : Nat) => blk_cell (blk_grown H5.out hg1 (Kd.R_away H6.out (fun _ hk => hk))) i; have fB := fun (i : Nat) => blk_frozen (blk_grown H5.out hg1 (Kd.R_away H6.out (fun _ hk => hk))) i; clear hR1 hg1 hat1 cV cQ))
    have hBV : Boxed V4 w1.heap.size 59 (.slice A2 out.length c2) := blk_grown H5.out G1.out (Kd.R_away H6.out (fun _ hk => hk))
    have hA := KpB.app (n0 := w.heap.size) hs1 H5.out G1.out (fun k hk => ⟨Kd.R_base H6.out k hk, H6.out.1 k hk⟩) (Kd.R_lt R1.out) T1.out
    have he : (out ++ [q]).length = out.length + 1 := by simp
    have R2 := R1.out
    rw [he] at hA R2
    have hO := KeepsOthers.of_grownBy G1.out (fun j o hj ho => by
     obtain ⟨_, _, _, q', _, cells, hc⟩ := (Kd.R_bound H6.out).1 j hj
     rw [hc] at ho
     cases ho
     rfl)
    exact ⟨(((KeepsOthers.call K4.out).trans hO).trans (KeepsOthers.setCell _ _ _)).from _, (KpB.call hbW.size hBlt K4.out).trans hA, by show HoldR _ (outS _) _; rw [HN.out]; exact ⟨_, hBV.set _, Kd.R_far R2 (fun k hk => hk) _⟩, (hbW.trans (K4.out.mono hbW.size)).trans hA.below⟩
  ·rw [Bool.eq_false_iff.2 hg] at HG
   unfold addS at hsn
   rw [if_neg hg] at hsn
   gi_wp2_with (first
    | (refine wpPartLdIn 16 rfl rfl 33 (.tmp 6) rfl _ rfl _ (nodeA m A3 c3) [] bX rfl Tryz.underlying33 rfl (by kernel_rfl) ?_)
    | ((try refine ⟨trivial, ?_⟩); gi_at_call 46; refine (CallsIn.inRound l (callsIn_wide.2 (HG.out _ hbW))).mono ?_; rintro e V1 ⟨rfl, hb⟩))
   exact ⟨(KeepsOthers.call hb).from _, KpB.call hbW.size hBlt hb, by show HoldR _ (outS _) _; rw [hsn]; exact hH.below hb, hB1.trans (hb.mono hB1.size)⟩
 case done =>
  rintro D zs W hD hS ⟨hH, hB1⟩ hKd
  rw [hS] at hH
  have hH' := hH
  obtain ⟨v, hBx, hR⟩ := hH
  have cS := hBx.cell
  obtain ⟨A2, c2, rfl, hle, hC⟩ := Kd.R_reads hR
  gi_wp2
  refine ⟨by simp, .inl ⟨_, _, rfl, run_takeDeferred hKd, ?_⟩⟩
  have hF := HoldR.own (β := Unit) w1.heap.size w1.heap.size (fun _ => outS (preN n)) () W _ (some D) hH' (grownBy_putObj' W D (.deferred none)) (fun r e => by cases e; exact ⟨by omega, _, hKd, rfl⟩)
  obtain ⟨v', hBx', hR'⟩ := hF
  obtain ⟨A4, c4, rfl, hle4, hC4⟩ := Kd.R_reads hR'
  have hc4 := Boxed.cell hBx
  have e4 := (Boxed.cell (((boxed_own w1.heap.size 59 (fun (_ : Unit) => Value.slice A2 (outS (preN n)).length c2)) () W _ (some D) hBx (grownBy_putObj' W D (.deferred none)) (fun r e => by cases e; exact ⟨_, hKd, rfl⟩)))).symm.trans (Boxed.cell hBx')
  cases e4
  exact ⟨_, results_tmp2 rfl _ _ _, ⟨_, _, rfl, hle4, hC4, Kd.R_mono (Kd.R_lower hR' hs1) (fun _ _ => trivial)⟩, hB1.trans (belowK_b (w := w) (Nat.le_refl _) W D _ _ (by omega) hKd rfl rfl)⟩
 case stop =>
  rintro D c pre W _ _ h _
  exact h.elim
end Go.Proofs.YthnldbclbfpojaaGreatDoor.Pr
end
section
namespace Go.Proofs.YthnldbclbfpojaaGreatDoor.Pr
open Go.RowKit Go.Proofs.YthnldbclbfpojaaGreatDoorW.PrintWords Go.Proofs.YthnldbclbfpojaaGreatDoorW.PrintLast Go.Proofs.YthnldbclbfpojaaGreatDoorW.PrintMore
mutual
theorem cnt_pre : ∀ n : Nd, (preN n).length = cntS n
 | ⟨a, v, c, t, s, l⟩ => by rw [preN, cntS, List.length_cons, cnt_preL l]; omega
theorem cnt_preL : ∀ l : List Nd, (preL l).length = cntL l
 | [] => by rw [preL, cntL]; rfl
 | x :: r => by rw [preL, cntL, List.length_append, cnt_pre x, cnt_preL r]
end
theorem pre_few {n : Nd} (h : checkI n = 0) : (preN n).length ≤ 4096 := by
 have h2 := (right_of_check h).2
 have h3 := nodes_cnt n 4096 (by omega) h2
 rw [cnt_pre]
 omega
theorem rects_ok (n : Nd) (A : Option Addr) (c : Nat) (w : World) (hK : KidsC w A c n.f5) (h : checkI n = 0) (hL0 : Aside0 (LaidW w)) :
  Calls Tryz.prog 23 #[nodeV n A c] w fun e w' => (∃ A2 c2, e = .returned (.tuple #[.slice A2 (outS (preN n)).length c2, .int .i64 0]) ∧ (outS (preN n)).length ≤ c2 ∧ Kd.C k64 w' A2 (outS (preN n)).length (outS (preN n)) ∧ Kd.R k64 64 w' w.heap.size (fun _ => True) (.slice A2 (outS (preN n)).length c2) (outS (preN n))) ∧ Below w.heap.size w w' :=
 callsIn_wide.1 (rects_go n A c w hK (pre_few h) ⟨fun W hW => by
  have := treeCheck_calls n A c W (hK.below hW) (LaidAt hL0 hW)
  rwa [h] at this⟩)
theorem lostN_nodes (m : Int) : nodesS lostN m = 1 := by rw [nodesS_eq]; show nodesL [] m 1 = 1; rw [nodesL]
theorem lostN_levels (m : Int) : levelsS lostN m = 1 := by
 rw [levelsS_eq]
 show (if m ≤ 0 then (1 : Int) else 1 + levelsL [] m 0) = 1
 rw [levelsL]
 split <;> rfl
theorem leafB_nodes {a : Int} {v : S26} {c t : Ce} {s : ByteArray} {m : Int} : nodesS ⟨a, v, c, t, s, []⟩ m = 1 := by rw [nodesS, nodesL]
theorem leafB_levels {a : Int} {v : S26} {c t : Ce} {s : ByteArray} {m : Int} : levelsS ⟨a, v, c, t, s, []⟩ m = 1 := by
 rw [levelsS, levelsL]
 split <;> rfl
mutual
theorem wayA_nodes {C : Ce → Option Ce} {D : Ce → Ce → Option (Ce × Ce)} : ∀ (n : Nd) (m : Int), allS leafB n = true → nodesS (wayS C D n) m = nodesS n m
 | ⟨a, v, c, t, s, l⟩, m, h => by
  have hn := (allS_kid h).1
  rw [allS, Bool.and_eq_true] at h
  have hl := wayA_nodesL (C := C) (D := D) l m 1 h.2
  rw [wayS]
  by_cases e2 : a = 2
  ·have e : l = [] := leaf_nil hn (Or.inl e2)
   subst e
   rw [if_pos e2, leafB_nodes]
   cases C c with
   | none => exact lostN_nodes m
   | some c' => show nodesS ⟨a, v, c', t, s, wayL C D []⟩ m = 1; rw [wayL, leafB_nodes]
  ·rw [if_neg e2]
   by_cases e3 : a = 3
   ·have e : l = [] := leaf_nil hn (Or.inr e3)
    subst e
    rw [if_pos e3, leafB_nodes]
    cases D c t with
    | none => exact lostN_nodes m
    | some p => show nodesS ⟨a, v, p.1, p.2, s, wayL C D []⟩ m = 1; rw [wayL, leafB_nodes]
   ·rw [if_neg e3, nodesS, nodesS]
    exact hl
theorem wayA_nodesL {C : Ce → Option Ce} {D : Ce → Ce → Option (Ce × Ce)} : ∀ (l : List Nd) (m a : Int), allL leafB l = true → nodesL (wayL C D l) m a = nodesL l m a
 | [], m, a, _ => by rw [wayL]
 | x :: r, m, a, h => by
  rw [allL, Bool.and_eq_true] at h
  rw [wayL, nodesL, nodesL, wayA_nodes x _ h.1]
  split
  ·exact wayA_nodesL r m _ h.2
  ·rfl
end
mutual
theorem wayA_levels {C : Ce → Option Ce} {D : Ce → Ce → Option (Ce × Ce)} : ∀ (n : Nd) (m : Int), allS leafB n = true → levelsS (wayS C D n) m = levelsS n m
 | ⟨a, v, c, t, s, l⟩, m, h => by
  have hn := (allS_kid h).1
  rw [allS, Bool.and_eq_true] at h
  have hl := wayA_levelsL (C := C) (D := D) l m 0 h.2
  rw [wayS]
  by_cases e2 : a = 2
  ·have e : l = [] := leaf_nil hn (Or.inl e2)
   subst e
   rw [if_pos e2, leafB_levels]
   cases C c with
   | none => exact lostN_levels m
   | some c' => show levelsS ⟨a, v, c', t, s, wayL C D []⟩ m = 1; rw [wayL, leafB_levels]
  ·rw [if_neg e2]
   by_cases e3 : a = 3
   ·have e : l = [] := leaf_nil hn (Or.inr e3)
    subst e
    rw [if_pos e3, leafB_levels]
    cases D c t with
    | none => exact lostN_levels m
    | some p => show levelsS ⟨a, v, p.1, p.2, s, wayL C D []⟩ m = 1; rw [wayL, leafB_levels]
   ·rw [if_neg e3, levelsS, levelsS, hl]
theorem wayA_levelsL {C : Ce → Option Ce} {D : Ce → Ce → Option (Ce × Ce)} : ∀ (l : List Nd) (m u : Int), allL leafB l = true → levelsL (wayL C D l) m u = levelsL l m u
 | [], m, u, _ => by rw [wayL]
 | x :: r, m, u, h => by
  rw [allL, Bool.and_eq_true] at h
  rw [wayL, levelsL, levelsL, wayA_levels x _ h.1]
  split
  ·exact wayA_levelsL r m _ h.2
  ·rfl
end
theorem lostN_right : rightS lostN = true := by decide +kernel
mutual
theorem wayA_right {C : Ce → Option Ce} {D : Ce → Ce → Option (Ce × Ce)} (hC : ∀ c c', cellB c = true → C c = some c' → cellB c' = true) (hD : ∀ c t p, cellB c = true → cellB t = true → D c t = some p → cellB p.1 = true ∧ cellB p.2 = true) :
  ∀ n : Nd, rightS n = true → rightS (wayS C D n) = true
 | ⟨a, v, c, t, s, l⟩, h => by
  have h0 := h
  unfold rightS at h ⊢
  rw [allS, Bool.and_eq_true, Bool.and_eq_true] at h
  have hl := wayA_rightL hC hD l h.2
  obtain ⟨⟨h1, h2⟩, -⟩ := h
  rw [wayS]
  by_cases e2 : a = 2
  ·subst e2
   rw [if_pos rfl]
   cases q : C c with
   | none => exact lostN_right
   | some c' =>
    have hc0 : cellB c = true := by
     have z := (by simpa [kindB] using h2 : _ ∧ _).2
     unfold cellB
     exact z
    have hc := hC _ _ hc0 q
    show allS _ ⟨2, v, c', t, s, wayL C D l⟩ = true
    rw [allS, hl, Bool.and_true, Bool.and_eq_true]
    refine ⟨?_, ?_⟩
    ·simpa [plainB] using h1
    ·simp only [kindB, wayL_length] at h2 ⊢
     unfold cellB at hc
     simpa [hc] using (by simpa using h2 : _ ∧ _).1
  ·rw [if_neg e2]
   by_cases e3 : a = 3
   ·subst e3
    rw [if_pos rfl]
    cases q : D c t with
    | none => exact lostN_right
    | some p =>
     have hc0 : cellB c = true ∧ cellB t = true := by
      have z := (by simpa [kindB] using h2 : _ ∧ _).2
      unfold cellB
      exact z
     obtain ⟨hc, hc2⟩ := hD _ _ _ hc0.1 hc0.2 q
     show allS _ ⟨3, v, p.1, p.2, s, wayL C D l⟩ = true
     rw [allS, hl, Bool.and_true, Bool.and_eq_true]
     refine ⟨?_, ?_⟩
     ·simpa [plainB] using h1
     ·simp only [kindB, wayL_length] at h2 ⊢
      unfold cellB at hc hc2
      simpa [hc, hc2] using (by simpa using h2 : _ ∧ _).1
   ·rw [if_neg e3]
    show allS _ ⟨a, v, c, t, s, wayL C D l⟩ = true
    rw [allS, hl, Bool.and_true, Bool.and_eq_true]
    refine ⟨h1, ?_⟩
    have hv : rV ⟨a, v, c, t, s, wayL C D l⟩ = rV ⟨a, v, c, t, s, l⟩ := rfl
    simpa only [kindB, wayL_length, hv] using h2
theorem wayA_rightL {C : Ce → Option Ce} {D : Ce → Ce → Option (Ce × Ce)} (hC : ∀ c c', cellB c = true → C c = some c' → cellB c' = true) (hD : ∀ c t p, cellB c = true → cellB t = true → D c t = some p → cellB p.1 = true ∧ cellB p.2 = true) :
  ∀ l : List Nd, allL (fun n => plainB n && kindB rV rLN rNM foldB n) l = true → allL (fun n => plainB n && kindB rV rLN rNM foldB n) (wayL C D l) = true
 | [], _ => by rw [wayL, allL]
 | x :: r, h => by
  rw [allL, Bool.and_eq_true] at h
  rw [wayL, allL, Bool.and_eq_true]
  exact ⟨wayA_right hC hD x h.1, wayA_rightL hC hD r h.2⟩
end
theorem wayA_check {C : Ce → Option Ce} {D : Ce → Ce → Option (Ce × Ce)} (hC : ∀ c c', cellB c = true → C c = some c' → cellB c' = true) (hD : ∀ c t p, cellB c = true → cellB t = true → D c t = some p → cellB p.1 = true ∧ cellB p.2 = true) (n : Nd) (h : checkI n = 0) :
  checkI (wayS C D n) = 0 := by
 have hk := leaf_of_check h
 unfold checkI at h ⊢
 rw [wayA_levels _ _ hk, wayA_nodes _ _ hk]
 by_cases h1 : levelsS n 160 > 160
 ·rw [if_pos h1] at h; omega
 ·rw [if_neg h1] at h ⊢
  by_cases h2 : nodesS n 4096 > 4096
  ·rw [if_pos h2] at h; omega
  ·rw [if_neg h2] at h ⊢
   by_cases h3 : rightS n = false
   ·rw [if_pos h3] at h; omega
   ·rw [if_neg h3] at h
    rw [wayA_right hC hD n (by simpa using h3), if_neg (by simp)]
    exact h
end Go.Proofs.YthnldbclbfpojaaGreatDoor.Pr
end
