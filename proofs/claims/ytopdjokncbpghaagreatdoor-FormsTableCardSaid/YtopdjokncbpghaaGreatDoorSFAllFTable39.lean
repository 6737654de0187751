/-
  Lemmas for the law FAllFTable.
-/
import Derived.Test.YtopdjokncbpghaaGreatDoorSFAllFTable33
import Derived.Test.YtopdjokncbpghaaGreatDoorSFAllFTable38
import Derived.Test.YtopdjokncbpghaaGreatDoorSFAllFTable22
import Derived.Test.YtopdjokncbpghaaGreatDoorSFAllFTable15
import Derived.Test.YtopdjokncbpghaaGreatDoorSFAllFTable26
import Derived.Test.YtopdjokncbpghaaGreatDoorSFAllFTable14
import Derived.Test.YtopdjokncbpghaaGreatDoorSFAllFTable34
import Derived.Test.YtopdjokncbpghaaGreatDoorSFAllFTable9
import Derived.Test.YtopdjokncbpghaaGreatDoorSFAllFTable6
import Derived.Test.YtopdjokncbpghaaGreatDoorSFAllFTable32
import Derived.Test.YtopdjokncbpghaaGreatDoorSFAllFTable30
import Derived.RangeFuncNested
set_option maxHeartbeats 8000000
set_option maxRecDepth 100000
set_option linter.unusedVariables false
set_option linter.unusedSimpArgs false
section
namespace Go.Proofs.YtopdjokncbpghaaGreatDoor.Pr
open Go.RowKit Go.Shelf Go.Proofs.YtopdjokncbpghaaGreatDoorW.PrintWords Go.Proofs.YtopdjokncbpghaaGreatDoorW.PrintLast Go.Proofs.YtopdjokncbpghaaGreatDoorW.PrintMore
attribute [local go_sem] Oper.semAt_some
theorem rects_go (n : Nd) (A : Option Addr) (c : Nat) (w : World) (hK : KidsC w A c n.f5) (hlen : (preN n).length ≤ 4096)
  (HC : Aside0 (∀ W, Below w.heap.size w W → Calls Tryz.prog 34 #[nodeV n A c] W fun e w' => e = .returned (.int .i64 0) ∧ Below W.heap.size W w')) :
  CallsIn Fence.wide 5 Tryz.prog 17 #[nodeV n A c] w fun e w' => (∃ A2 c2, e = .returned (.tuple #[.slice A2 (outS (preN n)).length c2, .int .i64 0]) ∧ (outS (preN n)).length ≤ c2 ∧ Kd.C k58 w' A2 (outS (preN n)).length (outS (preN n)) ∧ Kd.R k58 58 w' w.heap.size (fun _ => True) (.slice A2 (outS (preN n)).length c2) (outS (preN n))) ∧ Below w.heap.size w w' := by
 have HB := Aside0.mk (bel1 w (.cells (nodeA n A c) 44))
 have B1 := Aside0.mk (newBlk w (.cells (nodeA n A c) 44))
 refine callsIn_of_wp_marks Tryz.func17 rfl trivial ?_ rfl
 simp only [Tryz.ntmps17, List.size_toArray, List.length_cons, List.length_nil, Nat.reduceAdd, Nat.reduceSub, Array.replicate_succ, Array.replicate_zero, List.push_toArray, List.append_toArray, List.nil_append, List.cons_append]
 gi_wp2_with (first
  | (refine wpPartLdIn 8 rfl rfl 44 (.tmp 1) rfl _ rfl _ (nodeA n A c) [] B1.out rfl Tryz.underlying44 rfl (by kernel_rfl) ?_)
  | ((try refine ⟨trivial, ?_⟩); gi_at_call 34; refine (callsIn_wide.2 (HC.out _ (bel1 w _))).mono ?_; rintro e w1 ⟨rfl, hb⟩; have HB1 := Aside0.mk (below_step HB.out hb); have B2 := Aside0.mk (blk_below B1.out hb); clear hb B1 HB)
  | (refine wpPartLdIn 13 rfl rfl 44 (.tmp 1) rfl _ rfl _ (nodeA n A c) [] (blk_alloc B2.out _) rfl Tryz.underlying44 rfl (by kernel_rfl) ?_)
  | ((try refine ⟨trivial, ?_⟩); gi_at_call 35; refine (callsIn_wide.2 (all_calls n A c _)).mono ?_; rintro e w2 ⟨rfl, rfl⟩))
 have bO := (Boxed.new w1 48 (.slice none 0 0)).alloc (.cells (nodeA n A c) 44)
 have bN := newBlk2 w1 (.cells #[.slice none 0 0] 48) (.cells (nodeA n A c) 44)
 have hB0 : Below w.heap.size w ((w1.alloc (.cells #[.slice none 0 0] 48)).alloc (.cells (nodeA n A c) 44)) := below_alloc (below_alloc HB1.out _) _
 have hsz : ((w1.alloc (.cells #[.slice none 0 0] 48)).alloc (.cells (nodeA n A c) 44)).heap.size = w1.heap.size + 2 := by simp
 obtain ⟨W0, hW0⟩ : ∃ W0, ((w1.alloc (.cells #[.slice none 0 0] 48)).alloc (.cells (nodeA n A c) 44)) = W0 := ⟨_, rfl⟩
 rw [hW0] at bO bN hB0 hsz ⊢
 clear hW0
 have hs1 := HB1.out.size
 have hg0 : GoodB w1.heap.size W0 := by
  intro b hb
  rw [ownB_boxed bO] at hb
  cases hb
 refine wpIn_rangeFunc_ownH rfl (by omega) (gf := 55) (lb := #[.pointer (some ⟨w1.heap.size + 1, 0, none⟩)]) rfl trivial (enters_of Tryz.func55 (by kernel_rfl) rfl)
  (all_stops w1.heap.size (w1.heap.size + 1) 4 w n A c W0 bN hK hB0 hg0 (by omega)) KpB.trans (fun W l o o' hl h hc hw => KpB.putObj (w := W0) (by omega) (by omega) W l o o' hl h hc hw) (Below.refl _ _) (fun _ => rfl)
  (fun pre W => HoldR w1.heap.size (outS (pre.map NodeAt.nd)) W ∧ Below w.heap.size w W)
  (fun _ _ _ => False)
  (OwnFrom.and (HoldR.own _ _ _) (ownFrom_below (Nat.le_refl _) (by omega)))
  (fun _ _ _ _ _ hs _ _ => hs)
  ⟨⟨_, bO, Kd.R_nil _ _ _ _ _⟩, hB0⟩
  (fun x a' W => ∃ Bx, w1.heap.size < Bx ∧ W.heap[Bx]? = some (.cells (nodeA x.1.1 x.1.2.1 x.1.2.2) 44 (0, 0)) ∧ a' = { tmps := #[nodeV n A c, .pointer (some ⟨w.heap.size, 0, none⟩), .slice none 0 0, .int .i64 0, .int .i64 0, .pointer (some ⟨w1.heap.size, 0, none⟩), .pointer (some ⟨Bx, 0, none⟩), undef, .agg (nodeA n A c), .int .i64 0, .int .i64 0, .bool false, undef, .agg (nodeA n A c), .func (.func 55) #[] #[.pointer (some ⟨w1.heap.size + 1, 0, none⟩)], nodeV x.1.1 x.1.2.1 x.1.2.2, undef, undef, undef, undef, undef, undef, undef, undef, undef, undef, undef, undef, undef, undef], defers := [] })
  (fun x a' _ X Y row hs hg hr => by
   obtain ⟨Bx, h1, h2, h3⟩ := hs
   refine ⟨Bx, h1, blk_grown h2 hg (fun e => ?_), h3⟩
   obtain ⟨_, o, ho, hn⟩ := hr Bx e.symm
   rw [h2] at ho
   cases ho
   cases hn)
  ?assign ?body ?done ?stop
 case assign =>
  rintro l pre x W K ⟨hH, hB1⟩ hK'
  gi_wp2
  have hBlt : w1.heap.size < W.heap.size := by obtain ⟨v, hv, _⟩ := hH; exact hv.lt
  exact hK' _ _ ((KeepsOthers.alloc _ _).from _) (KpB.alloc (by omega) hBlt _) ⟨hH.below (below_alloc (Below.refl _ _) _), below_alloc hB1 _⟩ ⟨W.heap.size, hBlt, newBlk W _, rfl⟩
 case body =>
  rintro l pre x a' W hl ⟨r, hr⟩ ⟨hH, hB1⟩ ⟨Bx, hBx, bX, rfl⟩ hlt
  have hlo : (outS (pre.map NodeAt.nd)).length < 4096 := by
   have := outS_length (pre.map NodeAt.nd)
   rw [List.length_map] at this
   omega
  have hsn : outS ((pre ++ [x]).map NodeAt.nd) = addS (outS (pre.map NodeAt.nd)) x.1.1 := by rw [List.map_append, List.map_singleton, outS_snoc]
  have hBlt : w1.heap.size < W.heap.size := by obtain ⟨v, hv, _⟩ := hH; exact hv.lt
  clear hlt
  obtain ⟨⟨m, A3, c3⟩, hx⟩ := x
  simp only at hx bX hsn ⊢
  generalize outS (pre.map NodeAt.nd) = out at hH hlo hsn
  have HG := Aside0.mk fun (V : World) (h : Below w.heap.size w V) => ranged_calls m A3 c3 V (hx.below h)
  have HF := Aside0.mk fun (V : World) => frect_calls m A3 c3 V
  have hbW := hB1
  by_cases hg : rgB m = true
  ·rw [hg] at HG
   unfold addS at hsn
   rw [if_pos hg] at hsn
   have hq : Value.agg (rcA (fR m).t (fR m).l (fR m).o (fR m).r) = .agg #[.int .i64 (rcS m).f0, .int .i64 (rcS m).f1, .int .i64 (rcS m).f2, .int .i64 (rcS m).f3] := rfl
   rw [hq] at HF
   clear hq
   generalize rcS m = q at HF hsn
   obtain ⟨v, hBx1, hR⟩ := hH
   obtain ⟨A2, c2, rfl, hle, _⟩ := Kd.R_reads hR
   have H1 := Aside0.mk hBx1
   have H2 := Aside0.mk hR
   have HX := Aside0.mk bX
   have HW := Aside0.mk hB1
   have HM := Aside0.mk fun (V : World) (hc : Kd.C k58 V A2 out.length out) => contains_calls out q A2 c2 (by omega) V hc hle
   clear hBx1 hR bX hB1
   by_cases hm : q ∈ out
   ·rw [if_pos hm] at hsn
    have HN := Aside0.mk hsn
    clear hsn
    gi_wp2_with (first
     | (refine wpPartLdIn 16 rfl rfl 44 (.tmp 6) rfl _ rfl _ (nodeA m A3 c3) [] HX.out rfl Tryz.underlying44 rfl (by kernel_rfl) ?_)
     | ((try refine ⟨trivial, ?_⟩); gi_at_call 39; refine (CallsIn.inRound l (callsIn_wide.2 (HG.out _ hbW))).mono ?_; rintro e V1 ⟨rfl, hb⟩; have K1 := Aside0.mk hb; have X1 := Aside0.mk (blk_below HX.out hb); clear hb)
     | (refine wpPartLdIn 19 rfl rfl 44 (.tmp 6) rfl _ rfl _ (nodeA m A3 c3) [] X1.out rfl Tryz.underlying44 rfl (by kernel_rfl) ?_)
     | ((try refine ⟨trivial, ?_⟩); gi_at_call 40; refine (CallsIn.inRound l (callsIn_wide.2 (HF.out _))).mono ?_; rintro e V2 ⟨rfl, hb⟩; have K2 := Aside0.mk (below_step K1.out hb); have H3 := Aside0.mk (blk_below H1.out (below_step K1.out hb)); have H4 := Aside0.mk (Kd.R_below H2.out (below_step K1.out hb)); clear hb; have cO := fun (o : Obj) (i : Nat) => blk_cell (blk_alloc H3.out o) i)
     | ((try refine ⟨trivial, ?_⟩); gi_at_call 41; refine (CallsIn.inRound l (callsIn_wide.2 (HM.out _ (Kd.R_reads' (Kd.R_alloc H4.out _)).2.2))).mono ?_; rintro e V3 ⟨⟨b, rfl, hb3⟩, hb⟩; have hbt := hb3.2 hm; subst hbt; have K3 := Aside0.mk hb; clear hb hb3))
    have K4 := below_step (below_alloc K2.out _) K3.out
    exact ⟨(KeepsOthers.call K4).from _, KpB.call hbW.size hBlt K4, by show HoldR _ (outS _) _; rw [HN.out]; exact ⟨_, blk_below H1.out K4, Kd.R_below H2.out K4⟩, hbW.trans (K4.mono hbW.size)⟩
   ·rw [if_neg hm] at hsn
    have HN := Aside0.mk hsn
    clear hsn
    gi_wp2_with (first
     | (refine wpPartLdIn 16 rfl rfl 44 (.tmp 6) rfl _ rfl _ (nodeA m A3 c3) [] HX.out rfl Tryz.underlying44 rfl (by kernel_rfl) ?_)
     | ((try refine ⟨trivial, ?_⟩); gi_at_call 39; refine (CallsIn.inRound l (callsIn_wide.2 (HG.out _ hbW))).mono ?_; rintro e V1 ⟨rfl, hb⟩; have K1 := Aside0.mk hb; have X1 := Aside0.mk (blk_below HX.out hb); clear hb)
     | (refine wpPartLdIn 19 rfl rfl 44 (.tmp 6) rfl _ rfl _ (nodeA m A3 c3) [] X1.out rfl Tryz.underlying44 rfl (by kernel_rfl) ?_)
     | ((try refine ⟨trivial, ?_⟩); gi_at_call 40; refine (CallsIn.inRound l (callsIn_wide.2 (HF.out _))).mono ?_; rintro e V2 ⟨rfl, hb⟩; have K2 := Aside0.mk (below_step K1.out hb); have H3 := Aside0.mk (blk_below H1.out (below_step K1.out hb)); have H4 := Aside0.mk (Kd.R_below H2.out (below_step K1.out hb)); clear hb; have cO := fun (o : Obj) (i : Nat) => blk_cell (blk_alloc H3.out o) i)
     | ((try refine ⟨trivial, ?_⟩); gi_at_call 41; refine (CallsIn.inRound l (callsIn_wide.2 (HM.out _ (Kd.R_reads' (Kd.R_alloc H4.out _)).2.2))).mono ?_; rintro e V3 ⟨⟨b, rfl, hb3⟩, hb⟩; have hbt : b = false := Bool.eq_false_iff.2 (fun h => hm (hb3.1 h)); subst hbt; have K4 := Aside0.mk (below_step (below_alloc K2.out _) hb); have H5 := Aside0.mk (blk_below (blk_alloc H3.out _) hb); have H6 := Aside0.mk (Kd.R_below (Kd.R_alloc H4.out _) hb); have cV := fun (i : Nat) => blk_cell H5.out i; have cQ := fun (i : Nat) => blk_cell (blk_below (newBlk V2 (.cells #[.int .i64 q.f0, .int .i64 q.f1, .int .i64 q.f2, .int .i64 q.f3] 58)) hb) i; clear hb hb3 cO)
     | (gi_at_builtin; refine R_appendIn k58 w1.heap.size rfl (.tmp 25) (.tmp 27) 48 58 (.agg #[(.int .i64 0), (.int .i64 0), (.int .i64 0), (.int .i64 0)]) 32 rfl Tryz.underlying48 info58 rfl (by decide) (by omega) (.slice A2 out.length c2) out q [.int .i64 q.f0, .int .i64 q.f1, .int .i64 q.f2, .int .i64 q.f3] (fun k => k ≠ w1.heap.size) (fun _ => False) rfl rfl (k58_mkM _ _ _ q) (fun _ hk => hk.elim) (fun k hk => by have := blk_lt H5.out; omega) H6.out (Nat.le_of_lt (blk_lt H5.out)) (by omega) ?_; intro v1 V4 hR1 hg1 hat1; obtain ⟨A4, c4, rfl⟩ := Kd.R_slice hR1; have R1 := Aside0.mk hR1; have G1 := Aside0.mk hg1; have T1 := Aside0.mk hat1; have cB := fun (i : Nat) => blk_cell (blk_grown H5.out hg1 (Kd.R_away H6.out (fun _ hk => hk))) i; have fB := fun (i : Nat) => blk_frozen (blk_grown H5.out hg1 (Kd.R_away H6.out (fun _ hk => hk))) i; clear hR1 hg1 hat1 cV cQ))
    have hBV : Boxed V4 w1.heap.size 48 (.slice A2 out.length c2) := blk_grown H5.out G1.out (Kd.R_away H6.out (fun _ hk => hk))
    have hA := KpB.app (n0 := w.heap.size) hs1 H5.out G1.out (fun k hk => ⟨Kd.R_base H6.out k hk, H6.out.1 k hk⟩) (Kd.R_lt R1.out) T1.out
    have he : (out ++ [q]).length = out.length + 1 := by simp
    have R2 := R1.out
    rw [he] at hA R2
    have hO := KeepsOthers.of_grownBy G1.out (fun j o hj ho => by
     obtain ⟨_, _, _, q', _, cells, hc⟩ := (Kd.R_bound H6.out).1 j hj
     rw [hc] at ho
     cases ho
     rfl)
    exact ⟨(((KeepsOthers.call K4.out).trans hO).trans (KeepsOthers.setCell _ _ _)).from _, (KpB.call hbW.size hBlt K4.out).trans hA, by show HoldR _ (outS _) _; rw [HN.out]; exact ⟨_, hBV.set _, Kd.R_far R2 (fun k hk => hk) _⟩, (hbW.trans (K4.out.mono hbW.size)).trans hA.below⟩
  ·rw [Bool.eq_false_iff.2 hg] at HG
   unfold addS at hsn
   rw [if_neg hg] at hsn
   gi_wp2_with (first
    | (refine wpPartLdIn 16 rfl rfl 44 (.tmp 6) rfl _ rfl _ (nodeA m A3 c3) [] bX rfl Tryz.underlying44 rfl (by kernel_rfl) ?_)
    | ((try refine ⟨trivial, ?_⟩); gi_at_call 39; refine (CallsIn.inRound l (callsIn_wide.2 (HG.out _ hbW))).mono ?_; rintro e V1 ⟨rfl, hb⟩))
   exact ⟨(KeepsOthers.call hb).from _, KpB.call hbW.size hBlt hb, by show HoldR _ (outS _) _; rw [hsn]; exact hH.below hb, hB1.trans (hb.mono hB1.size)⟩
 case done =>
  rintro D zs W hD hS ⟨hH, hB1⟩ hKd
  rw [hS] at hH
  have hH' := hH
  obtain ⟨v, hBx, hR⟩ := hH
  have cS := hBx.cell
  obtain ⟨A2, c2, rfl, hle, hC⟩ := Kd.R_reads hR
  gi_wp2
  refine ⟨by simp, .inl ⟨_, _, rfl, run_takeDeferred hKd, ?_⟩⟩
  have hF := HoldR.own (β := Unit) w1.heap.size w1.heap.size (fun _ => outS (preN n)) () W _ (some D) hH' (grownBy_putObj' W D (.deferred none)) (fun r e => by cases e; exact ⟨by omega, _, hKd, rfl⟩)
  obtain ⟨v', hBx', hR'⟩ := hF
  obtain ⟨A4, c4, rfl, hle4, hC4⟩ := Kd.R_reads hR'
  have hc4 := Boxed.cell hBx
  have e4 := (Boxed.cell (((boxed_own w1.heap.size 48 (fun (_ : Unit) => Value.slice A2 (outS (preN n)).length c2)) () W _ (some D) hBx (grownBy_putObj' W D (.deferred none)) (fun r e => by cases e; exact ⟨_, hKd, rfl⟩)))).symm.trans (Boxed.cell hBx')
  cases e4
  exact ⟨_, results_tmp2 rfl _ _ _, ⟨_, _, rfl, hle4, hC4, Kd.R_mono (Kd.R_lower hR' hs1) (fun _ _ => trivial)⟩, hB1.trans (belowK_b (w := w) (Nat.le_refl _) W D _ _ (by omega) hKd rfl rfl)⟩
 case stop =>
  rintro D c pre W _ _ h _
  exact h.elim
end Go.Proofs.YtopdjokncbpghaaGreatDoor.Pr
end
section
namespace Go.Proofs.YtopdjokncbpghaaGreatDoor.Pr
open Go.RowKit Go.Proofs.YtopdjokncbpghaaGreatDoorW.PrintWords Go.Proofs.YtopdjokncbpghaaGreatDoorW.PrintLast Go.Proofs.YtopdjokncbpghaaGreatDoorW.PrintMore
mutual
theorem cnt_pre : ∀ n : Nd, (preN n).length = cntS n
 | ⟨a, v, c, t, s, l⟩ => by rw [preN, cntS, List.length_cons, cnt_preL l]; omega
theorem cnt_preL : ∀ l : List Nd, (preL l).length = cntL l
 | [] => by rw [preL, cntL]; rfl
 | x :: r => by rw [preL, cntL, List.length_append, cnt_pre x, cnt_preL r]
end
theorem pre_few {n : Nd} (h : checkI n = 0) : (preN n).length ≤ 4096 := by
 have h2 := (right_of_check h).2
 have h3 := nodes_cnt n 4096 (by omega) h2
 rw [cnt_pre]
 omega
theorem rects_ok (n : Nd) (A : Option Addr) (c : Nat) (w : World) (hK : KidsC w A c n.f5) (h : checkI n = 0) (hL0 : Aside0 (LaidW w)) :
  Calls Tryz.prog 17 #[nodeV n A c] w fun e w' => (∃ A2 c2, e = .returned (.tuple #[.slice A2 (outS (preN n)).length c2, .int .i64 0]) ∧ (outS (preN n)).length ≤ c2 ∧ Kd.C k58 w' A2 (outS (preN n)).length (outS (preN n)) ∧ Kd.R k58 58 w' w.heap.size (fun _ => True) (.slice A2 (outS (preN n)).length c2) (outS (preN n))) ∧ Below w.heap.size w w' :=
 callsIn_wide.1 (rects_go n A c w hK (pre_few h) ⟨fun W hW => by
  have := treeCheck_calls n A c W (hK.below hW) (LaidAt hL0 hW)
  rwa [h] at this⟩)
def parseN (s : ByteArray) : Option Nd :=
 (foolscapref07_Scan.f 200 s).bind fun p => if p.2.2 = 0 then (readS 100 p.1 0 0).bind fun r => if r.bad = false then (tokS p.1 r.i).bind fun t => if t.f0 = 0 ∧ ¬depthI r.n = 0 ∧ ¬depthI r.n > 40 then some r.n else none else none else none
theorem of_parseN {s : ByteArray} {n : Nd} (h : parseN s = some n) (W : World) : Calls Tryz.prog 32 #[.string s] W (NodeOut n W) := by
 unfold parseN at h
 obtain ⟨⟨l, a, b⟩, e1, h⟩ := Option.bind_eq_some_iff.1 h
 by_cases hb : b = 0
 ·rw [if_pos hb] at h
  subst hb
  obtain ⟨⟨m, i, bad⟩, e2, h⟩ := Option.bind_eq_some_iff.1 h
  cases bad with
  | true => cases h
  | false =>
   rw [if_pos rfl] at h
   obtain ⟨t, e3, h⟩ := Option.bind_eq_some_iff.1 h
   by_cases hc : t.f0 = 0 ∧ ¬depthI m = 0 ∧ ¬depthI m > 40
   ·rw [if_pos hc] at h
    obtain rfl := Option.some.inj h
    exact of_calls s m W ⟨fun W2 => parse_ok 200 100 s l a i (depthI m) m t W2 ⟨e1⟩ ⟨e2⟩ e3 hc.1 ⟨rfl⟩ hc.2.1 hc.2.2⟩
   ·rw [if_neg hc] at h; cases h
 ·rw [if_neg hb] at h; cases h
def checkN (n : Nd) : Int := if checkI n = 0 then firstE (callF fun m => calledR lostB (findT m.f4) m.f5) (preN n) else checkI n
def isN (s : ByteArray) (P : Nd → Bool) : Bool := match parseN s with | some n => P n | none => false
theorem isN_ok {s : ByteArray} {P : Nd → Bool} (h : isN s P = true) : ∃ n, parseN s = some n ∧ P n = true := by
 unfold isN at h
 cases e : parseN s with
 | none => rw [e] at h; cases h
 | some n => rw [e] at h; exact ⟨n, rfl, h⟩
theorem live_b : isN (⟨#[83, 85, 77, 40, 65, 49, 44, 50, 41]⟩ : ByteArray) (fun n => checkN n == 0) = true := by decide +kernel
theorem live_c : isN (⟨#[83, 85, 77, 40, 41]⟩ : ByteArray) (fun n => checkN n == 10) = true := by decide +kernel
theorem live_d : isN (⟨#[70, 79, 79, 40, 49, 41]⟩ : ByteArray) (fun n => checkN n == 8) = true := by decide +kernel
theorem live_g : isN (⟨#[86, 76, 79, 79, 75, 85, 80, 40, 49, 44, 50, 44, 51, 41]⟩ : ByteArray) (fun n => checkN n == 2) = true := by decide +kernel
theorem live_a : isN (⟨#[65, 49, 43, 83, 85, 77, 40, 66, 50, 58, 65, 49, 41, 42, 65, 49]⟩ : ByteArray) (fun n => checkI n == 0 && (decide ((outS (preN n)).length = 2) && decide (rd_T58 (outS (preN n)) 1 = ⟨1, 1, 2, 2⟩))) = true := by decide +kernel
theorem live_h : isN (⟨#[49, 43, 83, 85, 77, 40, 50, 41]⟩ : ByteArray) (fun n => checkI n == 0 && (preN n).any (callB (⟨#[83, 85, 77]⟩ : ByteArray))) = true := by decide +kernel
theorem lives9_walk (a b c d g h : Nd) (rl : List S_R) (w : World) (HL : Aside0 (rl.length = 2)) (HQ : Aside0 (rd_T58 rl 1 = ⟨1, 1, 2, 2⟩))
  (HOa : Aside0 (∀ W, Calls Tryz.prog 32 #[.string (⟨#[65, 49, 43, 83, 85, 77, 40, 66, 50, 58, 65, 49, 41, 42, 65, 49]⟩ : ByteArray)] W (NodeOut a W)))
  (HOb : Aside0 (∀ W, Calls Tryz.prog 32 #[.string (⟨#[83, 85, 77, 40, 65, 49, 44, 50, 41]⟩ : ByteArray)] W (NodeOut b W)))
  (HOc : Aside0 (∀ W, Calls Tryz.prog 32 #[.string (⟨#[83, 85, 77, 40, 41]⟩ : ByteArray)] W (NodeOut c W)))
  (HOd : Aside0 (∀ W, Calls Tryz.prog 32 #[.string (⟨#[70, 79, 79, 40, 49, 41]⟩ : ByteArray)] W (NodeOut d W)))
  (HOg : Aside0 (∀ W, Calls Tryz.prog 32 #[.string (⟨#[86, 76, 79, 79, 75, 85, 80, 40, 49, 44, 50, 44, 51, 41]⟩ : ByteArray)] W (NodeOut g W)))
  (HOh : Aside0 (∀ W, Calls Tryz.prog 32 #[.string (⟨#[49, 43, 83, 85, 77, 40, 50, 41]⟩ : ByteArray)] W (NodeOut h W)))
  (HR : Aside0 (∀ W A_ c_, Below w.heap.size w W → KidsC W A_ c_ a.f5 → Calls Tryz.prog 17 #[nodeV a A_ c_] W fun e w' => (∃ A2 c2, e = .returned (.tuple #[.slice A2 2 c2, .int .i64 0]) ∧ Kd.C k58 w' A2 2 rl) ∧ Below W.heap.size W w'))
  (HC_b : Aside0 (∀ W A_ c_, Below w.heap.size w W → KidsC W A_ c_ b.f5 → Calls Tryz.prog 15 #[nodeV b A_ c_] W fun e w' => e = .returned (.int .i64 0) ∧ Below W.heap.size W w'))
  (HC_c : Aside0 (∀ W A_ c_, Below w.heap.size w W → KidsC W A_ c_ c.f5 → Calls Tryz.prog 15 #[nodeV c A_ c_] W fun e w' => e = .returned (.int .i64 10) ∧ Below W.heap.size W w'))
  (HC_d : Aside0 (∀ W A_ c_, Below w.heap.size w W → KidsC W A_ c_ d.f5 → Calls Tryz.prog 15 #[nodeV d A_ c_] W fun e w' => e = .returned (.int .i64 8) ∧ Below W.heap.size W w'))
  (HC_g : Aside0 (∀ W A_ c_, Below w.heap.size w W → KidsC W A_ c_ g.f5 → Calls Tryz.prog 15 #[nodeV g A_ c_] W fun e w' => e = .returned (.int .i64 2) ∧ Below W.heap.size W w'))
  (HU : Aside0 (∀ W A_ c_, Below w.heap.size w W → KidsC W A_ c_ h.f5 → Calls Tryz.prog 20 #[nodeV h A_ c_, .string (⟨#[83, 85, 77]⟩ : ByteArray)] W fun e w' => e = .returned (.bool true) ∧ Below W.heap.size W w')) :
  Calls Tryz.prog 13 #[] w fun e w' => e = .returned (.bool true) ∧ Below w.heap.size w w' := by
 go_enter Tryz.func13, Tryz.ntmps13
 go_wp2_with (first
  | (go_at_call 32; (with_reducible refine (HOa.out _).mono ?_); rintro e w1 ⟨A1, c1, rfl, hF, hb⟩; have K1 := Aside0.mk hF.now; have HB1 := Aside0.mk hb; clear hb hF)
  | (go_at_call 17; (with_reducible refine (HR.out _ _ _ HB1.out K1.out).mono ?_); rintro e w2 ⟨⟨A2, c2, rfl, hC⟩, hb⟩; have HB2 := Aside0.mk (below_step HB1.out hb); have HC2 := Aside0.mk hC; clear hb hC HB1 K1)
  | (go_at_call 32; (with_reducible refine (HOb.out _).mono ?_); rintro e w3 ⟨A3, c3, rfl, hF, hb⟩; have K3 := Aside0.mk hF.now; have HB3 := Aside0.mk (below_step HB2.out hb); have HC3 := Aside0.mk (Kd.C_below HC2.out hb); clear HC2; clear hb hF HB2)
  | (go_at_call 15; (with_reducible refine (HC_b.out _ _ _ HB3.out K3.out).mono ?_); rintro e w4 ⟨rfl, hb⟩; have HB4 := Aside0.mk (below_step HB3.out hb); have HC4 := Aside0.mk (Kd.C_below HC3.out hb); clear hb HB3 K3 HC3)
  | (go_at_call 32; (with_reducible refine (HOc.out _).mono ?_); rintro e w5 ⟨A5, c5, rfl, hF, hb⟩; have K5 := Aside0.mk hF.now; have HB5 := Aside0.mk (below_step HB4.out hb); have HC5 := Aside0.mk (Kd.C_below HC4.out hb); clear HC4; clear hb hF HB4)
  | (go_at_call 15; (with_reducible refine (HC_c.out _ _ _ HB5.out K5.out).mono ?_); rintro e w6 ⟨rfl, hb⟩; have HB6 := Aside0.mk (below_step HB5.out hb); have HC6 := Aside0.mk (Kd.C_below HC5.out hb); clear hb HB5 K5 HC5)
  | (go_at_call 32; (with_reducible refine (HOd.out _).mono ?_); rintro e w7 ⟨A7, c7, rfl, hF, hb⟩; have K7 := Aside0.mk hF.now; have HB7 := Aside0.mk (below_step HB6.out hb); have HC7 := Aside0.mk (Kd.C_below HC6.out hb); clear HC6; clear hb hF HB6)
  | (go_at_call 15; (with_reducible refine (HC_d.out _ _ _ HB7.out K7.out).mono ?_); rintro e w8 ⟨rfl, hb⟩; have HB8 := Aside0.mk (below_step HB7.out hb); have HC8 := Aside0.mk (Kd.C_below HC7.out hb); clear hb HB7 K7 HC7)
  | (go_at_call 32; (with_reducible refine (HOg.out _).mono ?_); rintro e w9 ⟨A9, c9, rfl, hF, hb⟩; have K9 := Aside0.mk hF.now; have HB9 := Aside0.mk (below_step HB8.out hb); have HC9 := Aside0.mk (Kd.C_below HC8.out hb); clear HC8; clear hb hF HB8)
  | (go_at_call 15; (with_reducible refine (HC_g.out _ _ _ HB9.out K9.out).mono ?_); rintro e w10 ⟨rfl, hb⟩; have HB10 := Aside0.mk (below_step HB9.out hb); have HC10 := Aside0.mk (Kd.C_below HC9.out hb); clear hb HB9 K9 HC9; obtain ⟨ad, e_, v0, v1, v2, v3⟩ := at_T58 HC10.out 1 (by decide) (by decide); rw [HQ.out] at v0 v1 v2 v3; cases e_; have u0 : w10.cell? ⟨ad.block, ad.off + 4, none⟩ = some (.int .i64 1) := v0; have u1 : w10.cell? ⟨ad.block, ad.off + 4 + 1, none⟩ = some (.int .i64 1) := v1; have u2 : w10.cell? ⟨ad.block, ad.off + 4 + 2, none⟩ = some (.int .i64 2) := v2; have u3 : w10.cell? ⟨ad.block, ad.off + 4 + 3, none⟩ = some (.int .i64 2) := v3; clear v0 v1 v2 v3)
  | (go_at_call 32; (with_reducible refine (HOh.out _).mono ?_); rintro e w11 ⟨A11, c11, rfl, hF, hb⟩; have K11 := Aside0.mk hF.now; have HB11 := Aside0.mk (below_step HB10.out hb); have HC11 := Aside0.mk (Kd.C_below HC10.out hb); clear HC10; clear hb hF HB10)
  | (go_at_call 20; (with_reducible refine (HU.out _ _ _ HB11.out K11.out).mono ?_); rintro e w12 ⟨rfl, hb⟩; have HB12 := Aside0.mk (below_step HB11.out hb); clear hb))
 go_ret
 exact ⟨rfl, HB12.out⟩
theorem formsCheck_calls (n : Nd) (A : Option Addr) (c : Nat) (w : World) (hK : KidsC w A c n.f5) (hL0 : Aside0 (LaidW w)) :
  Calls Tryz.prog 15 #[nodeV n A c] w fun e w' => e = .returned (.int .i64 (checkN n)) ∧ Below w.heap.size w w' := by
 unfold checkN
 by_cases h : checkI n = 0
 ·rw [if_pos h]
  exact callsIn_wide.1 (fcheck_go _ n A c w hK ⟨fun W hW => by
   have := treeCheck_calls n A c W (hK.below hW) (LaidAt hL0 hW)
   rwa [h] at this⟩ ⟨fun m A_ c_ W hW hm => called_calls m A_ c_ W hm (LaidAt hL0 hW)⟩)
 ·rw [if_neg h]
  exact fcheck_bad n A c _ h w ⟨fun W hW => treeCheck_calls n A c W (hK.below hW) (LaidAt hL0 hW)⟩
theorem uses_calls (n : Nd) (A : Option Addr) (c : Nat) (name : ByteArray) (w : World) (hK : KidsC w A c n.f5) (hL0 : Aside0 (LaidW w)) :
  Calls Tryz.prog 20 #[nodeV n A c, .string name] w fun e w' => e = .returned (.bool (checkI n == 0 && (preN n).any (callB name))) ∧ Below w.heap.size w w' := by
 by_cases h : checkI n = 0
 ·rw [h]
  exact callsIn_wide.1 (uses_go n A c name w hK ⟨fun W hW => by
   have := treeCheck_calls n A c W (hK.below hW) (LaidAt hL0 hW)
   rwa [h] at this⟩)
 ·rw [show (checkI n == 0) = false by simp [h]]
  exact uses_bad n A c name _ h w ⟨fun W hW => treeCheck_calls n A c W (hK.below hW) (LaidAt hL0 hW)⟩
theorem lives_calls (w : World) (hL0 : Aside0 (LaidW w)) : Calls Tryz.prog 13 #[] w fun e w' => e = .returned (.bool true) ∧ Below w.heap.size w w' := by
 obtain ⟨a, ea, ha⟩ := isN_ok live_a
 obtain ⟨b, eb, hb⟩ := isN_ok live_b
 obtain ⟨c, ec, hc⟩ := isN_ok live_c
 obtain ⟨d, ed, hd⟩ := isN_ok live_d
 obtain ⟨g, eg, hg⟩ := isN_ok live_g
 obtain ⟨h, eh, hh⟩ := isN_ok live_h
 simp only [Bool.and_eq_true, beq_iff_eq, decide_eq_true_eq] at ha hb hc hd hg hh
 refine lives9_walk a b c d g h (outS (preN a)) w ⟨ha.2.1⟩ ⟨ha.2.2⟩ ⟨of_parseN ea⟩ ⟨of_parseN eb⟩ ⟨of_parseN ec⟩ ⟨of_parseN ed⟩ ⟨of_parseN eg⟩ ⟨of_parseN eh⟩ ⟨fun W A_ c_ hW hK => ?_⟩ ⟨fun W A_ c_ hW hK => ?_⟩ ⟨fun W A_ c_ hW hK => ?_⟩ ⟨fun W A_ c_ hW hK => ?_⟩ ⟨fun W A_ c_ hW hK => ?_⟩ ⟨fun W A_ c_ hW hK => ?_⟩
 ·refine (rects_ok a A_ c_ W hK ha.1 (LaidAt hL0 hW)).mono ?_
  rintro e w' ⟨⟨A2, c2, rfl, _, hC, _⟩, hb⟩
  rw [ha.2.1] at hC
  rw [ha.2.1]
  exact ⟨⟨A2, c2, rfl, hC⟩, hb⟩
 ·have := formsCheck_calls b A_ c_ W hK (LaidAt hL0 hW); rwa [hb] at this
 ·have := formsCheck_calls c A_ c_ W hK (LaidAt hL0 hW); rwa [hc] at this
 ·have := formsCheck_calls d A_ c_ W hK (LaidAt hL0 hW); rwa [hd] at this
 ·have := formsCheck_calls g A_ c_ W hK (LaidAt hL0 hW); rwa [hg] at this
 ·have := uses_calls h A_ c_ (⟨#[83, 85, 77]⟩ : ByteArray) W hK (LaidAt hL0 hW); rw [hh.1, hh.2] at this; exact this
def uint_ix (k : Int) (n : Nat) : Nat := (k % 18446744073709551616).toNat % n
theorem u64w (k : Int) : IntKind.u64.wrap k = k % 18446744073709551616 := by simp [IntKind.wrap, IntKind.bits, IntKind.signed]
theorem u64len {n : Nat} (h : n ≤ 9223372036854775807) : IntKind.u64.wrap (n : Int) = (n : Int) := by rw [u64w]; omega
theorem i64w {n : Nat} (h : n ≤ 9223372036854775807) : IntKind.i64.wrap (n : Int) = (n : Int) := by
 simp [IntKind.wrap, IntKind.bits, IntKind.signed]
 omega
theorem uint_tmod (k : Int) {n : Nat} (h : n ≤ 9223372036854775807) : (IntKind.u64.wrap k).tmod (n : Int) = (uint_ix k n : Int) := by
 rw [u64w]
 have h0 : 0 ≤ k % 18446744073709551616 := by omega
 obtain ⟨m, hm⟩ := Int.eq_ofNat_of_zero_le h0
 unfold uint_ix
 rw [hm, Int.toNat_natCast, Int.ofNat_tmod]
theorem uint_lt (k : Int) {n : Nat} (h : 0 < n) : uint_ix k n < n := Nat.mod_lt _ h
def fkids.T5 : Bool × List (List Nat × List Nat) := (true, [([], []), ([0], [0]), ([], []), ([2], [2]), ([], []), ([4], [4]), ([5], [5]), ([6], [6]), ([3, 7], [3, 7]), ([8], [8]), ([1, 9], [1, 9]), ([10], [10]), ([11], [11]), ([12], [12]), ([13, 12], [13]), ([14, 14], [14]), ([14, 15], [14, 15]), ([16, 15, 0, 1, 2, 3, 4, 5, 6, 7, 8, 9, 10, 11, 12, 13, 14, 15, 16], [16])])
def fkids.B5 : List Nat := [0, 1, 0, 4, 0, 16, 48, 112, 252, 508, 1023, 2047, 4095, 8191, 16383, 32767, 65535, 131071]
theorem fkids.tab5 : rtab .any (opsOf Tryz.f6 5) = fkids.T5 := by kernel_rfl
theorem fkids.bits5 : waitsOk fkids.T5.2 fkids.B5 = true := by kernel_rfl
def fall.T11 : Bool × List (List Nat × List Nat) := (true, [([], []), ([0], [0]), ([], []), ([], []), ([2, 3], [2, 3]), ([4], [4]), ([5], [5]), ([1, 6], [1, 6]), ([7], [7]), ([8], [8]), ([8], [8]), ([8], [8]), ([10, 11, 8], [8, 10, 11]), ([12, 8], [8, 12]), ([9, 13, 8, 8], [8, 9, 13]), ([8, 14], [8, 14]), ([15, 14], [15]), ([16, 16], [16]), ([16, 17], [16, 17]), ([18, 17, 0, 1, 2, 3, 4, 5, 6, 7, 8, 9, 10, 11, 12, 13, 14, 15, 16, 17, 18], [18])])
def fall.B11 : List Nat := [0, 1, 0, 0, 12, 28, 60, 127, 255, 511, 511, 511, 3583, 7679, 16383, 32767, 65535, 131071, 262143, 524287]
theorem fall.tab11 : rtab .any (opsOf Tryz.f8 11) = fall.T11 := by kernel_rfl
theorem fall.bits11 : waitsOk fall.T11.2 fall.B11 = true := by kernel_rfl
def RowAt (w : World) (ad : Addr) (i : Nat) (nm : ByteArray) (lo hi : Int) (v : Value) : Prop :=
 CellsAt w (ad.add (i * 4)) #[.string nm, .int .i64 lo, .int .i64 hi, v] ∧ w.cell? (ad.add (i * 4)) = some (.string nm) ∧ w.cell? ⟨(ad.add (i * 4)).block, (ad.add (i * 4)).off + 3, none⟩ = some v
theorem RowAt.below {w w1 : World} {ad : Addr} {i : Nat} {nm : ByteArray} {lo hi : Int} {v : Value} (h : RowAt w ad i nm lo hi v) (hb : Below w.heap.size w w1) : RowAt w1 ad i nm lo hi v := ⟨h.1.below hb, pw_cell_below hb h.2.1, pw_cell_below hb h.2.2⟩
theorem RowAt.drew {w : World} {ad : Addr} {i : Nat} {nm : ByteArray} {lo hi : Int} {v : Value} (h : RowAt w ad i nm lo hi v) : RowAt w.drew ad i nm lo hi v := h.below (below_drew (Below.refl _ _))
theorem RowAt.far {w : World} {ad : Addr} {i : Nat} {nm : ByteArray} {lo hi : Int} {v : Value} (h : RowAt w ad i nm lo hi v) {p : Addr} (hp : ad.block ≠ p.block) (u : Value) : RowAt (w.setCell p u) ad i nm lo hi v :=
 ⟨fun j x hx => (cell_far (by rw [add_block, add_block]; exact hp) u).trans (h.1 j x hx), (cell_far (by rw [add_block]; exact hp) u).trans h.2.1, (cell_far (by show (ad.add (i * 4)).block ≠ _; rw [add_block]; exact hp) u).trans h.2.2⟩
def WB (w w1 wr : World) (ad : Addr) (aw : Option Addr) (n : Nat) : Prop := n = 0 ∨ ∃ gw cells, aw = some ⟨gw, 0, none⟩ ∧ w.heap.size ≤ gw ∧ gw < w1.heap.size ∧ gw ≠ ad.block ∧ wr.heap[gw]? = some (.cells cells 62 (0, 0)) ∧ n ≤ cells.size
theorem wb_below {w w1 wr wx : World} {ad : Addr} {aw : Option Addr} {n : Nat} (hb : Below wr.heap.size wr wx) (h : WB w w1 wr ad aw n) : WB w w1 wx ad aw n := by
 rcases h with h | ⟨gw, cells, h1, h2, h3, h4, h5, h6⟩
 ·exact .inl h
 ·exact .inr ⟨gw, cells, h1, h2, h3, h4, blk_below h5 hb, h6⟩
def RefOut (N i : Nat) (nm : ByteArray) (lo hi : Int) (V : List Int) (W : World) (e : Ending) (w' : World) : Prop :=
 ∃ ad cap aw cw, e = .returned (.slice (some ad) N cap) ∧ V.length ≤ cw ∧ RowAt w' ad i nm lo hi (.slice aw V.length cw) ∧ W.heap.size ≤ ad.block ∧ Kd.F (Kd.int .i64) w' (fun z => W.heap.size ≤ z) aw V.length V ∧ Below W.heap.size W w'
def AllOut (N i : Nat) (nm : ByteArray) (lo hi : Int) (V : List Int) (W : World) (e : Ending) (w' : World) : Prop :=
 ∃ ad cap aw cw, e = .returned (.slice (some ad) N cap) ∧ V.length ≤ cw ∧ RowAt w' ad i nm lo hi (.slice aw V.length cw) ∧ W.heap.size ≤ ad.block ∧ Kd.F (Kd.int .i64) w' (fun z => W.heap.size ≤ z) aw V.length V ∧ WB W w' w' ad aw V.length ∧ Below W.heap.size W w'
theorem wb_now {w w' : World} {ad : Addr} {aw : Option Addr} {n : Nat} (_hb : Below w.heap.size w w') (h : WB w w' w' ad aw n) : WB w w' w' ad aw n := h
theorem fall_go (k : Int) (N : Nat) (hN : 0 < N) (hmax : N ≤ 1000) (nm : ByteArray) (lo hi : Int) (V : List Int) (hV : V.length ≤ 1000) (w : World)
  (HA : Aside0 (∀ W, Below w.heap.size w W → Calls Tryz.prog 23 #[] W (AllOut N (uint_ix k N) nm lo hi V W)))
  (HR : Aside0 (∀ W, Below w.heap.size w W → Calls Tryz.prog 24 #[] W (RefOut N (uint_ix k N) nm lo hi V W)))
  (HS : Aside0 (∀ W A_ c_ B_ e_, V.length ≤ c_ → V.length ≤ e_ → Kd.C (Kd.int .i64) W A_ V.length V → Kd.C (Kd.int .i64) W B_ V.length V → Calls Tryz.prog 12 #[.agg #[.string nm, .int .i64 lo, .int .i64 hi, .slice A_ V.length c_], .agg #[.string nm, .int .i64 lo, .int .i64 hi, .slice B_ V.length e_]] W (fun e w' => e = .returned (.bool true) ∧ Below W.heap.size W w')))
  (HL : Aside0 (∀ W, Below w.heap.size w W → Calls Tryz.prog 13 #[] W (fun e w' => e = .returned (.bool true) ∧ Below W.heap.size W w'))) :
  Calls Tryz.prog 8 #[.int .i64 k] w fun e w' => e = .returned (.bool true) ∧ Below w.heap.size w w' := by
 have hmax0 : N ≤ 9223372036854775807 := by omega
 have h0b : ((N : Int) == 0) = false := beq_eq_false_iff_ne.2 (by omega)
 have hu1 := u64len hmax0
 have hu2 := uint_tmod k hmax0
 have hu3 : ¬((N : Int) = 0) := by omega
 have hu4 : ((uint_ix k N : Nat) : Int) < (N : Int) := by have := uint_lt k (n := N) hN; omega
 have hu5 : IntKind.i64.wrap ((uint_ix k N : Nat) : Int) = ((uint_ix k N : Nat) : Int) := i64w (by have := uint_lt k (n := N) hN; omega)
 have hu6 : wrap64 ((uint_ix k N : Nat) : Int) = ((uint_ix k N : Nat) : Int) := by have := uint_lt k (n := N) hN; unfold wrap64; omega
 go_enter Tryz.func8, Tryz.ntmps8
 go_wp2_with (first
  | (go_at_call 23; (with_reducible refine (HA.out _ (Below.refl _ _)).mono ?_); rintro e w1 ⟨ad, cap, aw, cw, rfl, hcw, hrow, hge, hF, hWB, hb⟩; have HC1 := Aside0.mk hcw; have HR1 := Aside0.mk hrow; have HW1 := Aside0.mk (wb_now hb hWB); have HB1 := Aside0.mk hb; clear hcw hrow hge hF hWB hb)
  | (go_at_call 24; (with_reducible refine (HR.out _ HB1.out).mono ?_); rintro e w2 ⟨bd, cap2, bw, dw, rfl, hdw, hrow, hge, hF, hb⟩; have HC2 := Aside0.mk hdw; have HR2 := Aside0.mk hrow; have HG2 := Aside0.mk hge; have HF2 := Aside0.mk hF; have HB2 := Aside0.mk (below_step HB1.out hb); have HR3 := Aside0.mk (HR1.out.below hb); have HW2 := Aside0.mk (wb_below hb HW1.out); have HZ2 := Aside0.mk hb.size; clear hdw hrow hge hF hb HR1 HW1)
  | ((with_reducible refine gate_dst (N := 31) rfl ?_); refine wpLdAt 31 rfl rfl 24 (.tmp 30) rfl (ad.add ((uint_ix k N) * 4)) rfl _ (_) (HR3.out.1) Tryz.underlying24 rfl (by kernel_rfl) ?_)
  | ((with_reducible refine gate_store (t := 24) (p := 6) (v := .tmp 31) rfl ?_); refine wpRowSt rfl 24 (.tmp 6) (.tmp 31) rfl (w2.heap.size) (#[.string nm, .int .i64 lo, .int .i64 hi, .slice aw V.length cw]) rfl rfl 24 _ (newBlk w2 _) (by kernel_rfl) rfl rfl ?_; have B6 := Aside0.mk (setRow_heap _ _ _ (#[.string nm, .int .i64 lo, .int .i64 hi, .slice aw V.length cw]) _ _ (newBlk w2 (.cells #[.string ⟨#[]⟩, .int .i64 0, .int .i64 0, .slice none 0 0] 24))); have HB3 := Aside0.mk (rowBelow (below_alloc HB2.out (.cells #[.string ⟨#[]⟩, .int .i64 0, .int .i64 0, .slice none 0 0] 24)) HB2.out.size (#[.string nm, .int .i64 lo, .int .i64 hi, .slice aw V.length cw])); have HR4 := Aside0.mk (HR3.out.below (rowBelow (bel1 w2 (.cells #[.string ⟨#[]⟩, .int .i64 0, .int .i64 0, .slice none 0 0] 24)) (Nat.le_refl _) (#[.string nm, .int .i64 lo, .int .i64 hi, .slice aw V.length cw]))); have HR5 := Aside0.mk (HR2.out.below (rowBelow (bel1 w2 (.cells #[.string ⟨#[]⟩, .int .i64 0, .int .i64 0, .slice none 0 0] 24)) (Nat.le_refl _) (#[.string nm, .int .i64 lo, .int .i64 hi, .slice aw V.length cw]))); have HF3 := Aside0.mk (Kd.F_below HF2.out (rowBelow (bel1 w2 (.cells #[.string ⟨#[]⟩, .int .i64 0, .int .i64 0, .slice none 0 0] 24)) (Nat.le_refl _) (#[.string nm, .int .i64 lo, .int .i64 hi, .slice aw V.length cw]))); have HW3 := Aside0.mk (wb_below (rowBelow (bel1 w2 (.cells #[.string ⟨#[]⟩, .int .i64 0, .int .i64 0, .slice none 0 0] 24)) (Nat.le_refl _) (#[.string nm, .int .i64 lo, .int .i64 hi, .slice aw V.length cw])) HW2.out); clear HR3 HR2 HF2 HW2))
 go_loopw [7] (fun v wr => ∃ (q : Nat), q ≤ V.length ∧ v = .int .i64 q ∧ Aside0 (Below w.heap.size w wr) ∧ Aside0 (wr.heap[w2.heap.size]? = some (.cells #[.string nm, .int .i64 lo, .int .i64 hi, .slice aw V.length cw] 24 (0, 0))) ∧ Aside0 (RowAt wr ad (uint_ix k N) nm lo hi (.slice aw V.length cw)) ∧ Aside0 (RowAt wr bd (uint_ix k N) nm lo hi (.slice bw V.length dw)) ∧ Aside0 (Kd.F (Kd.int .i64) wr (fun z => w1.heap.size ≤ z) bw V.length V) ∧ Aside0 (WB w w1 wr ad aw V.length)) (fun v _ => V.length - (intOf v).toNat)
 case atStart => exact ⟨0, Nat.zero_le _, rfl, HB3, B6, HR4, HR5, HF3, HW3⟩
 case round =>
  clear HB3 B6 HR4 HR5 HF3 HW3
  obtain ⟨q, hq, rfl, HB, HK6, HRl, HRm, HFm, HW⟩ := hrel
  have hx3 := HRl.out.2.2
  by_cases hql : q < V.length
  ·rcases HW.out with h | ⟨gw, cells, rfl, hg1, hg2, hg3, hg4, hg5⟩
   ·omega
   obtain ⟨cv, hcv⟩ : ∃ cv, cells[q]? = some cv := ⟨_, Array.getElem?_eq_getElem (by omega)⟩
   have hc : wr.cell? ⟨gw, q, none⟩ = some cv := (blk_cell hg4 q).trans hcv
   clear hcv
   have hf := blk_frozen hg4 q
   have hwq : wrap64 ((q : Int) + 1) = ((q + 1 : Nat) : Int) := by unfold wrap64; omega
   have HG := Aside0.mk (And.intro hg1 (And.intro hg2 (And.intro hg3 (And.intro hg4 hg5))))
   clear hg1 hg2 hg3 hg4 hg5 HW
   go_wp2
   go_roundw
   case rel =>
    obtain ⟨hg1, hg2, hg3, hg4, hg5⟩ := HG.out
    refine ⟨q + 1, by omega, by go_num, ⟨below_set HB.out hg1⟩, ⟨blk_far (p := ⟨gw, q, none⟩) HK6.out (show w2.heap.size ≠ gw by have := HZ2.out; omega) _⟩, ⟨HRl.out.far (p := ⟨gw, q, none⟩) (fun h => hg3 h.symm) _⟩, ⟨HRm.out.far (p := ⟨gw, q, none⟩) (show bd.block ≠ gw by have := HG2.out; omega) _⟩, ⟨Kd.F_far HFm.out (p := ⟨gw, q, none⟩) (fun z hz => (show z ≠ gw by omega)) _⟩, ⟨.inr ⟨gw, _, rfl, hg1, hg2, hg3, blk_put hg4 q _ rfl, by rw [Array.size_setIfInBounds]; exact hg5⟩⟩⟩
   case measure => simp [intOf]; omega
  ·clear hq HW
   go_wp2_with (first
    | (go_at_call 23; (with_reducible refine (HA.out _ HB.out).mono ?_); rintro e w4 ⟨zd, cap3, zw, yw, rfl, hyw, hrow, hge, hF, hWB, hb⟩; have HC4 := Aside0.mk hyw; have HR6 := Aside0.mk hrow; have HF4 := Aside0.mk hF; have HB4 := Aside0.mk (below_step HB.out hb); have K6 := Aside0.mk (blk_below HK6.out hb); have HR7 := Aside0.mk (HRm.out.below hb); have HF5 := Aside0.mk (Kd.F_now (Kd.F_below HFm.out hb)); clear hyw hrow hge hF hWB hb)
    | ((with_reducible refine gate_dst (N := 52) rfl ?_); refine wpLdAt 52 rfl rfl 24 (.tmp 51) rfl (zd.add ((uint_ix k N) * 4)) rfl _ (_) (HR6.out.1) Tryz.underlying24 rfl (by kernel_rfl) ?_)
    | ((with_reducible refine gate_store (t := 24) (p := 8) (v := .tmp 52) rfl ?_); refine wpRowSt rfl 24 (.tmp 8) (.tmp 52) rfl (w4.heap.size) (#[.string nm, .int .i64 lo, .int .i64 hi, .slice zw V.length yw]) rfl rfl 24 _ (newBlk w4 _) (by kernel_rfl) rfl rfl ?_; have B8 := Aside0.mk (setRow_heap _ _ _ (#[.string nm, .int .i64 lo, .int .i64 hi, .slice zw V.length yw]) _ _ (newBlk w4 (.cells #[.string ⟨#[]⟩, .int .i64 0, .int .i64 0, .slice none 0 0] 24))); have HB5 := Aside0.mk (rowBelow (below_alloc HB4.out (.cells #[.string ⟨#[]⟩, .int .i64 0, .int .i64 0, .slice none 0 0] 24)) HB4.out.size (#[.string nm, .int .i64 lo, .int .i64 hi, .slice zw V.length yw])); have L6 := Aside0.mk (rowNew K6.out (.cells #[.string ⟨#[]⟩, .int .i64 0, .int .i64 0, .slice none 0 0] 24) (#[.string nm, .int .i64 lo, .int .i64 hi, .slice zw V.length yw])); have HR8 := Aside0.mk (HR7.out.below (rowBelow (bel1 w4 (.cells #[.string ⟨#[]⟩, .int .i64 0, .int .i64 0, .slice none 0 0] 24)) (Nat.le_refl _) (#[.string nm, .int .i64 lo, .int .i64 hi, .slice zw V.length yw]))); have HF6 := Aside0.mk (Kd.C_below HF5.out (rowBelow (bel1 w4 (.cells #[.string ⟨#[]⟩, .int .i64 0, .int .i64 0, .slice none 0 0] 24)) (Nat.le_refl _) (#[.string nm, .int .i64 lo, .int .i64 hi, .slice zw V.length yw]))); have HF7 := Aside0.mk (Kd.C_below (Kd.F_now HF4.out) (rowBelow (bel1 w4 (.cells #[.string ⟨#[]⟩, .int .i64 0, .int .i64 0, .slice none 0 0] 24)) (Nat.le_refl _) (#[.string nm, .int .i64 lo, .int .i64 hi, .slice zw V.length yw]))); clear K6 HR7 HF5 HF4))
   refine start_ (n := 20) (S := fun w' => w'.heap[w2.heap.size]? = some (.cells #[.string nm, .int .i64 lo, .int .i64 hi, .slice aw V.length cw] 24 (0, 0)) ∧ w'.heap[w4.heap.size]? = some (.cells #[.string nm, .int .i64 lo, .int .i64 hi, .slice zw V.length yw] 24 (0, 0)) ∧ RowAt w' bd (uint_ix k N) nm lo hi (.slice bw V.length dw) ∧ Kd.C (Kd.int .i64) w' bw V.length V ∧ Kd.C (Kd.int .i64) w' zw V.length V ∧ Below w.heap.size w w') (ds := []) (Array.replicate 20 false) (by kernel_rfl) rfl rfl ⟨blk_drew L6.out, blk_drew B8.out, HR8.out.drew, Kd.C_drew HF6.out, Kd.C_drew HF7.out, below_drew1 HB5.out⟩ (fun hHeld => ?_)
   refine with_tabW fall.tab11 fall.bits11 (fun HT_ HW_ => ?_)
   refine pz 0 53 HT_ ?_; refine pz 2 55 HT_ ?_; refine pz 3 56 HT_ ?_; refine pz 4 57 HT_ ?_; refine pz 5 58 HT_ ?_
   refine tz 1 54 HT_ HW_ (hr := (by rintro w' s0; have q1 := fun i => blk_cell s0.1 i; have q3 := s0.2.2.1.2.1; go_simp; with_reducible rfl)) (hS := hHeld) (h := ?_)
   refine tz 6 59 HT_ HW_ (hr := (by rintro w' s0; have q1 := fun i => blk_cell s0.1 i; have q3 := s0.2.2.1.2.1; go_simp; with_reducible rfl)) (hS := hHeld) (h := ?_)
   refine pz 7 60 HT_ ?_; refine pz 8 61 HT_ ?_; refine pz 10 63 HT_ ?_; refine pz 11 64 HT_ ?_; refine pz 12 65 HT_ ?_
   refine tz 9 62 HT_ HW_ (hr := (by rintro w' s0; exact partRun (cs := #[.string nm, .int .i64 lo, .int .i64 hi, .slice zw V.length yw]) [] rfl rfl (s0.2.1) rfl Tryz.underlying24 rfl (by kernel_rfl))) (hS := hHeld) (h := ?_)
   refine tz 13 66 HT_ HW_ (hr := (by rintro w' s0; exact rowRunAt rfl rfl (s0.2.2.1.1) Tryz.underlying24 rfl (by kernel_rfl))) (hS := hHeld) (h := ?_)
   refine oneI 14 (some 67) HT_ rfl rfl (by kernel_rfl) (by decide) (fun K hK => ?_)
   refine goes_ Tryz.func12 (by kernel_rfl) rfl #[.agg #[.string nm, .int .i64 lo, .int .i64 hi, .slice zw V.length yw], .agg #[.string nm, .int .i64 lo, .int .i64 hi, .slice bw V.length dw]] (by (try simp only [List.map_toArray, List.map_cons, List.map_nil]); first | done | rfl) rfl rfl (by first | rfl | ((try simp only [List.map_toArray, List.map_cons, List.map_nil]); first | done | rfl)) ?_
   with_reducible refine (HS.out _ _ _ _ _ HC4.out HC2.out hHeld.2.2.2.2.1 hHeld.2.2.2.1).mono ?_
   rintro e w9 ⟨rfl, hb⟩
   refine ⟨_, rfl, ?_⟩
   refine hK.out _ _ ⟨blk_below hHeld.1 hb, blk_below hHeld.2.1 hb, hHeld.2.2.1.below hb, Kd.C_below hHeld.2.2.2.1 hb, Kd.C_below hHeld.2.2.2.2.1 hb, below_step hHeld.2.2.2.2.2 hb⟩ (fun hHeld => ?_)
   clear hK K
   refine nz 67 ?_
   refine pz 15 68 HT_ ?_; refine pz 16 69 HT_ ?_
   refine oneI 17 (some 70) HT_ rfl rfl (by kernel_rfl) (by decide) (fun K hK => ?_)
   refine goes_ Tryz.func13 (by kernel_rfl) rfl #[] (by (try simp only [List.map_toArray, List.map_cons, List.map_nil]); first | done | rfl) rfl rfl (by first | rfl | ((try simp only [List.map_toArray, List.map_cons, List.map_nil]); first | done | rfl)) ?_
   with_reducible refine (HL.out _ hHeld.2.2.2.2.2).mono ?_
   rintro e w9 ⟨rfl, hb⟩
   refine ⟨_, rfl, ?_⟩
   refine hK.out _ _ ⟨blk_below hHeld.1 hb, blk_below hHeld.2.1 hb, hHeld.2.2.1.below hb, Kd.C_below hHeld.2.2.2.1 hb, Kd.C_below hHeld.2.2.2.2.1 hb, below_step hHeld.2.2.2.2.2 hb⟩ (fun hHeld => ?_)
   clear hK K
   refine nz 70 ?_
   refine pz 18 71 HT_ ?_; refine pz 19 2 HT_ ?_
   refine done_ (done_of HT_.out (by kernel_rfl)) ?_
   have HF := Aside0.mk hHeld.2.2.2.2.2
   clear hHeld
   go_wp2
   go_ret
   exact ⟨rfl, HF.out⟩
def fchecks.T1 : Bool × List (List Nat × List Nat) := (true, [([], []), ([0], [0]), ([1, 1], [1]), ([2], [2]), ([3, 2, 2], [2, 3]), ([2], [2]), ([5, 4, 2], [2, 5]), ([4, 6, 2], [2, 4, 6]), ([2, 7], [2, 7]), ([8, 6], [8]), ([9, 9], [9]), ([9, 10], [9, 10]), ([11, 10, 0, 1, 2, 3, 4, 5, 6, 7, 8, 9, 10, 11], [11])])
def fchecks.B1 : List Nat := [0, 1, 3, 7, 15, 7, 63, 127, 255, 511, 1023, 2047, 4095]
theorem fchecks.tab1 : rtab .any (opsOf Tryz.f4 1) = fchecks.T1 := by kernel_rfl
theorem fchecks.bits1 : waitsOk fchecks.T1.2 fchecks.B1 = true := by kernel_rfl
def frects.T5 : Bool × List (List Nat × List Nat) := (true, [([], []), ([], []), ([0, 1], [0, 1]), ([2, 2], [2]), ([3], [3]), ([3], [3]), ([4, 5, 3], [3, 4, 5]), ([3, 6], [3, 6]), ([7, 3], [7]), ([8], [8]), ([8], [8]), ([9, 10, 8, 8], [8, 9, 10]), ([8], [8]), ([8], [8]), ([12, 13, 11, 8], [8, 12, 13]), ([11, 14, 8], [8, 11, 14]), ([8, 15], [8, 15]), ([16, 14], [16]), ([17, 17], [17]), ([17, 18], [17, 18]), ([19, 18, 0, 1, 2, 3, 4, 5, 6, 7, 8, 9, 10, 11, 12, 13, 14, 15, 16, 17, 18, 19], [19])])
def frects.B5 : List Nat := [0, 0, 3, 7, 15, 15, 63, 127, 255, 511, 511, 2047, 511, 511, 16383, 32767, 65535, 131071, 262143, 524287, 1048575]
theorem frects.tab5 : rtab .any (opsOf Tryz.f5 5) = frects.T5 := by kernel_rfl
theorem frects.bits5 : waitsOk frects.T5.2 frects.B5 = true := by kernel_rfl
theorem lives9 {w : World} (hL0 : Aside0 (LaidW w)) : Aside0 (∀ W, Below w.heap.size w W → Calls Tryz.prog 13 #[] W fun e w' => e = .returned (.bool true) ∧ Below W.heap.size W w') := ⟨fun W hW => lives_calls W (LaidAt hL0 hW)⟩
theorem same9_l0 (nm : ByteArray) (lo hi : Int) (V : List Int) (hV : V.length ≤ 1000000) : ∀ (k i : Nat), i ≤ V.length → V.length < i + k → foolscapref09_Same.l0 k (i : Int) nm lo hi V nm lo hi V = some true
 | 0, i, hi', h => by exfalso; omega
 | k + 1, i, hi', h => by
  rw [foolscapref09_Same.l0]
  by_cases h1 : i < V.length
  ·rw [if_pos (by omega), if_pos (by omega), if_pos (by omega), if_pos rfl, show wrap64 ((i : Int) + 1) = ((i + 1 : Nat) : Int) by unfold wrap64; omega]
   exact same9_l0 nm lo hi V hV k (i + 1) (by omega) (by omega)
  ·rw [if_neg (by omega)]
theorem same9 (nm : ByteArray) (lo hi : Int) (V : List Int) (hV : V.length ≤ 1000000) : foolscapref09_Same.f (V.length + 2) nm lo hi V nm lo hi V = some true := by
 unfold foolscapref09_Same.f
 rw [if_pos rfl, if_pos rfl, if_pos rfl, foolscapref09_Same.j0, if_neg (by simp)]
 exact same9_l0 nm lo hi V hV _ 0 (Nat.zero_le _) (by omega)
end Go.Proofs.YtopdjokncbpghaaGreatDoor.Pr
end
