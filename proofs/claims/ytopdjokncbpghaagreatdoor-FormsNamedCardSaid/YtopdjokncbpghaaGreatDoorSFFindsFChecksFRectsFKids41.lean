/-
  Lemmas for the law FFindsFChecksFRectsFKids.
-/
import Derived.Test.YtopdjokncbpghaaGreatDoorSFFindsFChecksFRectsFKids34
import Derived.Test.YtopdjokncbpghaaGreatDoorSFFindsFChecksFRectsFKids40
import Derived.Test.YtopdjokncbpghaaGreatDoorSFFindsFChecksFRectsFKids23
import Derived.Test.YtopdjokncbpghaaGreatDoorSFFindsFChecksFRectsFKids16
import Derived.Test.YtopdjokncbpghaaGreatDoorSFFindsFChecksFRectsFKids27
import Derived.Test.YtopdjokncbpghaaGreatDoorSFFindsFChecksFRectsFKids35
import Derived.Test.YtopdjokncbpghaaGreatDoorSFFindsFChecksFRectsFKids36
import Derived.RangeFuncNested
set_option maxHeartbeats 8000000
set_option maxRecDepth 100000
set_option linter.unusedVariables false
set_option linter.unusedSimpArgs false
section
namespace Go.Proofs.YtopdjokncbpghaaGreatDoor.Pr
open Go.RowKit Go.Shelf Go.Proofs.YtopdjokncbpghaaGreatDoorW.PrintWords Go.Proofs.YtopdjokncbpghaaGreatDoorW.PrintLast Go.Proofs.YtopdjokncbpghaaGreatDoorW.PrintMore
attribute [local go_sem] Oper.semAt_some
theorem rects_go (n : Nd) (A : Option Addr) (c : Nat) (w : World) (hK : KidsC w A c n.f5) (hlen : (preN n).length ≤ 4096)
  (HC : Aside0 (∀ W, Below w.heap.size w W → Calls Tryz.prog 34 #[nodeV n A c] W fun e w' => e = .returned (.int .i64 0) ∧ Below W.heap.size W w')) :
  CallsIn Fence.wide 5 Tryz.prog 17 #[nodeV n A c] w fun e w' => (∃ A2 c2, e = .returned (.tuple #[.slice A2 (outS (preN n)).length c2, .int .i64 0]) ∧ (outS (preN n)).length ≤ c2 ∧ Kd.C k58 w' A2 (outS (preN n)).length (outS (preN n)) ∧ Kd.R k58 58 w' w.heap.size (fun _ => True) (.slice A2 (outS (preN n)).length c2) (outS (preN n))) ∧ Below w.heap.size w w' := by
 have HB := Aside0.mk (bel1 w (.cells (nodeA n A c) 44))
 have B1 := Aside0.mk (newBlk w (.cells (nodeA n A c) 44))
 refine callsIn_of_wp_marks Tryz.func17 rfl trivial ?_ rfl
 simp only [Tryz.ntmps17, List.size_toArray, List.length_cons, List.length_nil, Nat.reduceAdd, Nat.reduceSub, Array.replicate_succ, Array.replicate_zero, List.push_toArray, List.append_toArray, List.nil_append, List.cons_append]
 gi_wp2_with (first
  | (refine wpPartLdIn 8 rfl rfl 44 (.tmp 1) rfl _ rfl _ (nodeA n A c) [] B1.out rfl Tryz.underlying44 rfl (by kernel_rfl) ?_)
  | ((try refine ⟨trivial, ?_⟩); gi_at_call 34; refine (callsIn_wide.2 (HC.out _ (bel1 w _))).mono ?_; rintro e w1 ⟨rfl, hb⟩; have HB1 := Aside0.mk (below_step HB.out hb); have B2 := Aside0.mk (blk_below B1.out hb); clear hb B1 HB)
  | (refine wpPartLdIn 13 rfl rfl 44 (.tmp 1) rfl _ rfl _ (nodeA n A c) [] (blk_alloc B2.out _) rfl Tryz.underlying44 rfl (by kernel_rfl) ?_)
  | ((try refine ⟨trivial, ?_⟩); gi_at_call 35; refine (callsIn_wide.2 (all_calls n A c _)).mono ?_; rintro e w2 ⟨rfl, rfl⟩))
 have bO := (Boxed.new w1 48 (.slice none 0 0)).alloc (.cells (nodeA n A c) 44)
 have bN := newBlk2 w1 (.cells #[.slice none 0 0] 48) (.cells (nodeA n A c) 44)
 have hB0 : Below w.heap.size w ((w1.alloc (.cells #[.slice none 0 0] 48)).alloc (.cells (nodeA n A c) 44)) := below_alloc (below_alloc HB1.out _) _
 have hsz : ((w1.alloc (.cells #[.slice none 0 0] 48)).alloc (.cells (nodeA n A c) 44)).heap.size = w1.heap.size + 2 := by simp
 obtain ⟨W0, hW0⟩ : ∃ W0, ((w1.alloc (.cells #[.slice none 0 0] 48)).alloc (.cells (nodeA n A c) 44)) = W0 := ⟨_, rfl⟩
 rw [hW0] at bO bN hB0 hsz ⊢
 clear hW0
 have hs1 := HB1.out.size
 have hg0 : GoodB w1.heap.size W0 := by
  intro b hb
  rw [ownB_boxed bO] at hb
  cases hb
 refine wpIn_rangeFunc_ownH rfl (by omega) (gf := 55) (lb := #[.pointer (some ⟨w1.heap.size + 1, 0, none⟩)]) rfl trivial (enters_of Tryz.func55 (by kernel_rfl) rfl)
  (all_stops w1.heap.size (w1.heap.size + 1) 4 w n A c W0 bN hK hB0 hg0 (by omega)) KpB.trans (fun W l o o' hl h hc hw => KpB.putObj (w := W0) (by omega) (by omega) W l o o' hl h hc hw) (Below.refl _ _) (fun _ => rfl)
  (fun pre W => HoldR w1.heap.size (outS (pre.map NodeAt.nd)) W ∧ Below w.heap.size w W)
  (fun _ _ _ => False)
  (OwnFrom.and (HoldR.own _ _ _) (ownFrom_below (Nat.le_refl _) (by omega)))
  (fun _ _ _ _ _ hs _ _ => hs)
  ⟨⟨_, bO, Kd.R_nil _ _ _ _ _⟩, hB0⟩
  (fun x a' W => ∃ Bx, w1.heap.size < Bx ∧ W.heap[Bx]? = some (.cells (nodeA x.1.1 x.1.2.1 x.1.2.2) 44 (0, 0)) ∧ a' = { tmps := #[nodeV n A c, .pointer (some ⟨w.heap.size, 0, none⟩), .slice none 0 0, .int .i64 0, .int .i64 0, .pointer (some ⟨w1.heap.size, 0, none⟩), .pointer (some ⟨Bx, 0, none⟩), undef, .agg (nodeA n A c), .int .i64 0, .int .i64 0, .bool false, undef, .agg (nodeA n A c), .func (.func 55) #[] #[.pointer (some ⟨w1.heap.size + 1, 0, none⟩)], nodeV x.1.1 x.1.2.1 x.1.2.2, undef, undef, undef, undef, undef, undef, undef, undef, undef, undef, undef, undef, undef, undef], defers := [] })
  (fun x a' _ X Y row hs hg hr => by
   obtain ⟨Bx, h1, h2, h3⟩ := hs
   refine ⟨Bx, h1, blk_grown h2 hg (fun e => ?_), h3⟩
   obtain ⟨_, o, ho, hn⟩ := hr Bx e.symm
   rw [h2] at ho
   cases ho
   cases hn)
  ?assign ?body ?done ?stop
 case assign =>
  rintro l pre x W K ⟨hH, hB1⟩ hK'
  gi_wp2
  have hBlt : w1.heap.size < W.heap.size := by obtain ⟨v, hv, _⟩ := hH; exact hv.lt
  exact hK' _ _ ((KeepsOthers.alloc _ _).from _) (KpB.alloc (by omega) hBlt _) ⟨hH.below (below_alloc (Below.refl _ _) _), below_alloc hB1 _⟩ ⟨W.heap.size, hBlt, newBlk W _, rfl⟩
 case body =>
  rintro l pre x a' W hl ⟨r, hr⟩ ⟨hH, hB1⟩ ⟨Bx, hBx, bX, rfl⟩ hlt
  have hlo : (outS (pre.map NodeAt.nd)).length < 4096 := by
   have := outS_length (pre.map NodeAt.nd)
   rw [List.length_map] at this
   omega
  have hsn : outS ((pre ++ [x]).map NodeAt.nd) = addS (outS (pre.map NodeAt.nd)) x.1.1 := by rw [List.map_append, List.map_singleton, outS_snoc]
  have hBlt : w1.heap.size < W.heap.size := by obtain ⟨v, hv, _⟩ := hH; exact hv.lt
  clear hlt
  obtain ⟨⟨m, A3, c3⟩, hx⟩ := x
  simp only at hx bX hsn ⊢
  generalize outS (pre.map NodeAt.nd) = out at hH hlo hsn
  have HG := Aside0.mk fun (V : World) (h : Below w.heap.size w V) => ranged_calls m A3 c3 V (hx.below h)
  have HF := Aside0.mk fun (V : World) => frect_calls m A3 c3 V
  have hbW := hB1
  by_cases hg : rgB m = true
  ·rw [hg] at HG
   unfold addS at hsn
   rw [if_pos hg] at hsn
   have hq : Value.agg (rcA (fR m).t (fR m).l (fR m).o (fR m).r) = .agg #[.int .i64 (rcS m).f0, .int .i64 (rcS m).f1, .int .i64 (rcS m).f2, .int .i64 (rcS m).f3] := rfl
   rw [hq] at HF
   clear hq
   generalize rcS m = q at HF hsn
   obtain ⟨v, hBx1, hR⟩ := hH
   obtain ⟨A2, c2, rfl, hle, _⟩ := Kd.R_reads hR
   have H1 := Aside0.mk hBx1
   have H2 := Aside0.mk hR
   have HX := Aside0.mk bX
   have HW := Aside0.mk hB1
   have HM := Aside0.mk fun (V : World) (hc : Kd.C k58 V A2 out.length out) => contains_calls out q A2 c2 (by omega) V hc hle
   clear hBx1 hR bX hB1
   by_cases hm : q ∈ out
   ·rw [if_pos hm] at hsn
    have HN := Aside0.mk hsn
    clear hsn
    gi_wp2_with (first
     | (refine wpPartLdIn 16 rfl rfl 44 (.tmp 6) rfl _ rfl _ (nodeA m A3 c3) [] HX.out rfl Tryz.underlying44 rfl (by kernel_rfl) ?_)
     | ((try refine ⟨trivial, ?_⟩); gi_at_call 39; refine (CallsIn.inRound l (callsIn_wide.2 (HG.out _ hbW))).mono ?_; rintro e V1 ⟨rfl, hb⟩; have K1 := Aside0.mk hb; have X1 := Aside0.mk (blk_below HX.out hb); clear hb)
     | (refine wpPartLdIn 19 rfl rfl 44 (.tmp 6) rfl _ rfl _ (nodeA m A3 c3) [] X1.out rfl Tryz.underlying44 rfl (by kernel_rfl) ?_)
     | ((try refine ⟨trivial, ?_⟩); gi_at_call 40; refine (CallsIn.inRound l (callsIn_wide.2 (HF.out _))).mono ?_; rintro e V2 ⟨rfl, hb⟩; have K2 := Aside0.mk (below_step K1.out hb); have H3 := Aside0.mk (blk_below H1.out (below_step K1.out hb)); have H4 := Aside0.mk (Kd.R_below H2.out (below_step K1.out hb)); clear hb; have cO := fun (o : Obj) (i : Nat) => blk_cell (blk_alloc H3.out o) i)
     | ((try refine ⟨trivial, ?_⟩); gi_at_call 41; refine (CallsIn.inRound l (callsIn_wide.2 (HM.out _ (Kd.R_reads' (Kd.R_alloc H4.out _)).2.2))).mono ?_; rintro e V3 ⟨⟨b, rfl, hb3⟩, hb⟩; have hbt := hb3.2 hm; subst hbt; have K3 := Aside0.mk hb; clear hb hb3))
    have K4 := below_step (below_alloc K2.out _) K3.out
    exact ⟨(KeepsOthers.call K4).from _, KpB.call hbW.size hBlt K4, by show HoldR _ (outS _) _; rw [HN.out]; exact ⟨_, blk_below H1.out K4, Kd.R_below H2.out K4⟩, hbW.trans (K4.mono hbW.size)⟩
   ·rw [if_neg hm] at hsn
    have HN := Aside0.mk hsn
    clear hsn
    gi_wp2_with (first
     | (refine wpPartLdIn 16 rfl rfl 44 (.tmp 6) rfl _ rfl _ (nodeA m A3 c3) [] HX.out rfl Tryz.underlying44 rfl (by kernel_rfl) ?_)
     | ((try refine ⟨trivial, ?_⟩); gi_at_call 39; refine (CallsIn.inRound l (callsIn_wide.2 (HG.out _ hbW))).mono ?_; rintro e V1 ⟨rfl, hb⟩; have K1 := Aside0.mk hb; have X1 := Aside0.mk (blk_below HX.out hb); clear hb)
     | (refine wpPartLdIn 19 rfl rfl 44 (.tmp 6) rfl _ rfl _ (nodeA m A3 c3) [] X1.out rfl Tryz.underlying44 rfl (by kernel_rfl) ?_)
     | ((try refine ⟨trivial, ?_⟩); gi_at_call 40; refine (CallsIn.inRound l (callsIn_wide.2 (HF.out _))).mono ?_; rintro e V2 ⟨rfl, hb⟩; have K2 := Aside0.mk (below_step K1.out hb); have H3 := Aside0.mk (blk_below H1.out (below_step K1.out hb)); have H4 := Aside0.mk (Kd.R_below H2.out (below_step K1.out hb)); clear hb; have cO := fun (o : Obj) (i : Nat) => blk_cell (blk_alloc H3.out o) i)
     | ((try refine ⟨trivial, ?_⟩); gi_at_call 41; refine (CallsIn.inRound l (callsIn_wide.2 (HM.out _ (Kd.R_reads' (Kd.R_alloc H4.out _)).2.2))).mono ?_; rintro e V3 ⟨⟨b, rfl, hb3⟩, hb⟩; have hbt : b = false := Bool.eq_false_iff.2 (fun h => hm (hb3.1 h)); subst hbt; have K4 := Aside0.mk (below_step (below_alloc K2.out _) hb); have H5 := Aside0.mk (blk_below (blk_alloc H3.out _) hb); have H6 := Aside0.mk (Kd.R_below (Kd.R_alloc H4.out _) hb); have cV := fun (i : Nat) => blk_cell H5.out i; have cQ := fun (i : Nat) => blk_cell (blk_below (newBlk V2 (.cells #[.int .i64 q.f0, .int .i64 q.f1, .int .i64 q.f2, .int .i64 q.f3] 58)) hb) i; clear hb hb3 cO)
     | (gi_at_builtin; refine R_appendIn k58 w1.heap.size rfl (.tmp 25) (.tmp 27) 48 58 (.agg #[(.int .i64 0), (.int .i64 0), (.int .i64 0), (.int .i64 0)]) 32 rfl Tryz.underlying48 info58 rfl (by decide) (by omega) (.slice A2 out.length c2) out q [.int .i64 q.f0, .int .i64 q.f1, .int .i64 q.f2, .int .i64 q.f3] (fun k => k ≠ w1.heap.size) (fun _ => False) rfl rfl (k58_mkM _ _ _ q) (fun _ hk => hk.elim) (fun k hk => by have := blk_lt H5.out; omega) H6.out (Nat.le_of_lt (blk_lt H5.out)) (by omega) ?_; intro v1 V4 hR1 hg1 hat1; obtain ⟨A4, c4, rfl⟩ := Kd.R_slice hR1; have R1 := Aside0.mk hR1; have G1 := Aside0.mk hg1; have T1 := Aside0.mk hat1; have cB := fun (i : Nat) => blk_cell (blk_grown H5.out hg1 (Kd.R_away H6.out (fun _ hk => hk))) i; have fB := fun (i : Nat) => blk_frozen (blk_grown H5.out hg1 (Kd.R_away H6.out (fun _ hk => hk))) i; clear hR1 hg1 hat1 cV cQ))
    have hBV : Boxed V4 w1.heap.size 48 (.slice A2 out.length c2) := blk_grown H5.out G1.out (Kd.R_away H6.out (fun _ hk => hk))
    have hA := KpB.app (n0 := w.heap.size) hs1 H5.out G1.out (fun k hk => ⟨Kd.R_base H6.out k hk, H6.out.1 k hk⟩) (Kd.R_lt R1.out) T1.out
    have he : (out ++ [q]).length = out.length + 1 := by simp
    have R2 := R1.out
    rw [he] at hA R2
    have hO := KeepsOthers.of_grownBy G1.out (fun j o hj ho => by
     obtain ⟨_, _, _, q', _, cells, hc⟩ := (Kd.R_bound H6.out).1 j hj
     rw [hc] at ho
     cases ho
     rfl)
    exact ⟨(((KeepsOthers.call K4.out).trans hO).trans (KeepsOthers.setCell _ _ _)).from _, (KpB.call hbW.size hBlt K4.out).trans hA, by show HoldR _ (outS _) _; rw [HN.out]; exact ⟨_, hBV.set _, Kd.R_far R2 (fun k hk => hk) _⟩, (hbW.trans (K4.out.mono hbW.size)).trans hA.below⟩
  ·rw [Bool.eq_false_iff.2 hg] at HG
   unfold addS at hsn
   rw [if_neg hg] at hsn
   gi_wp2_with (first
    | (refine wpPartLdIn 16 rfl rfl 44 (.tmp 6) rfl _ rfl _ (nodeA m A3 c3) [] bX rfl Tryz.underlying44 rfl (by kernel_rfl) ?_)
    | ((try refine ⟨trivial, ?_⟩); gi_at_call 39; refine (CallsIn.inRound l (callsIn_wide.2 (HG.out _ hbW))).mono ?_; rintro e V1 ⟨rfl, hb⟩))
   exact ⟨(KeepsOthers.call hb).from _, KpB.call hbW.size hBlt hb, by show HoldR _ (outS _) _; rw [hsn]; exact hH.below hb, hB1.trans (hb.mono hB1.size)⟩
 case done =>
  rintro D zs W hD hS ⟨hH, hB1⟩ hKd
  rw [hS] at hH
  have hH' := hH
  obtain ⟨v, hBx, hR⟩ := hH
  have cS := hBx.cell
  obtain ⟨A2, c2, rfl, hle, hC⟩ := Kd.R_reads hR
  gi_wp2
  refine ⟨by simp, .inl ⟨_, _, rfl, run_takeDeferred hKd, ?_⟩⟩
  have hF := HoldR.own (β := Unit) w1.heap.size w1.heap.size (fun _ => outS (preN n)) () W _ (some D) hH' (grownBy_putObj' W D (.deferred none)) (fun r e => by cases e; exact ⟨by omega, _, hKd, rfl⟩)
  obtain ⟨v', hBx', hR'⟩ := hF
  obtain ⟨A4, c4, rfl, hle4, hC4⟩ := Kd.R_reads hR'
  have hc4 := Boxed.cell hBx
  have e4 := (Boxed.cell (((boxed_own w1.heap.size 48 (fun (_ : Unit) => Value.slice A2 (outS (preN n)).length c2)) () W _ (some D) hBx (grownBy_putObj' W D (.deferred none)) (fun r e => by cases e; exact ⟨_, hKd, rfl⟩)))).symm.trans (Boxed.cell hBx')
  cases e4
  exact ⟨_, results_tmp2 rfl _ _ _, ⟨_, _, rfl, hle4, hC4, Kd.R_mono (Kd.R_lower hR' hs1) (fun _ _ => trivial)⟩, hB1.trans (belowK_b (w := w) (Nat.le_refl _) W D _ _ (by omega) hKd rfl rfl)⟩
 case stop =>
  rintro D c pre W _ _ h _
  exact h.elim
end Go.Proofs.YtopdjokncbpghaaGreatDoor.Pr
end
section
namespace Go.Proofs.YtopdjokncbpghaaGreatDoor.Pr
open Go.RowKit Go.Proofs.YtopdjokncbpghaaGreatDoorW.PrintWords Go.Proofs.YtopdjokncbpghaaGreatDoorW.PrintLast Go.Proofs.YtopdjokncbpghaaGreatDoorW.PrintMore
mutual
theorem cnt_pre : ∀ n : Nd, (preN n).length = cntS n
 | ⟨a, v, c, t, s, l⟩ => by rw [preN, cntS, List.length_cons, cnt_preL l]; omega
theorem cnt_preL : ∀ l : List Nd, (preL l).length = cntL l
 | [] => by rw [preL, cntL]; rfl
 | x :: r => by rw [preL, cntL, List.length_append, cnt_pre x, cnt_preL r]
end
theorem pre_few {n : Nd} (h : checkI n = 0) : (preN n).length ≤ 4096 := by
 have h2 := (right_of_check h).2
 have h3 := nodes_cnt n 4096 (by omega) h2
 rw [cnt_pre]
 omega
theorem rects_ok (n : Nd) (A : Option Addr) (c : Nat) (w : World) (hK : KidsC w A c n.f5) (h : checkI n = 0) (hL0 : Aside0 (LaidW w)) :
  Calls Tryz.prog 17 #[nodeV n A c] w fun e w' => (∃ A2 c2, e = .returned (.tuple #[.slice A2 (outS (preN n)).length c2, .int .i64 0]) ∧ (outS (preN n)).length ≤ c2 ∧ Kd.C k58 w' A2 (outS (preN n)).length (outS (preN n)) ∧ Kd.R k58 58 w' w.heap.size (fun _ => True) (.slice A2 (outS (preN n)).length c2) (outS (preN n))) ∧ Below w.heap.size w w' :=
 callsIn_wide.1 (rects_go n A c w hK (pre_few h) ⟨fun W hW => by
  have := treeCheck_calls n A c W (hK.below hW) (LaidAt hL0 hW)
  rwa [h] at this⟩)
def parseN (s : ByteArray) : Option Nd :=
 (foolscapref07_Scan.f 200 s).bind fun p => if p.2.2 = 0 then (readS 100 p.1 0 0).bind fun r => if r.bad = false then (tokS p.1 r.i).bind fun t => if t.f0 = 0 ∧ ¬depthI r.n = 0 ∧ ¬depthI r.n > 40 then some r.n else none else none else none
theorem of_parseN {s : ByteArray} {n : Nd} (h : parseN s = some n) (W : World) : Calls Tryz.prog 32 #[.string s] W (NodeOut n W) := by
 unfold parseN at h
 obtain ⟨⟨l, a, b⟩, e1, h⟩ := Option.bind_eq_some_iff.1 h
 by_cases hb : b = 0
 ·rw [if_pos hb] at h
  subst hb
  obtain ⟨⟨m, i, bad⟩, e2, h⟩ := Option.bind_eq_some_iff.1 h
  cases bad with
  | true => cases h
  | false =>
   rw [if_pos rfl] at h
   obtain ⟨t, e3, h⟩ := Option.bind_eq_some_iff.1 h
   by_cases hc : t.f0 = 0 ∧ ¬depthI m = 0 ∧ ¬depthI m > 40
   ·rw [if_pos hc] at h
    obtain rfl := Option.some.inj h
    exact of_calls s m W ⟨fun W2 => parse_ok 200 100 s l a i (depthI m) m t W2 ⟨e1⟩ ⟨e2⟩ e3 hc.1 ⟨rfl⟩ hc.2.1 hc.2.2⟩
   ·rw [if_neg hc] at h; cases h
 ·rw [if_neg hb] at h; cases h
def checkN (n : Nd) : Int := if checkI n = 0 then firstE (callF fun m => calledR lostB (findT m.f4) m.f5) (preN n) else checkI n
def isN (s : ByteArray) (P : Nd → Bool) : Bool := match parseN s with | some n => P n | none => false
theorem isN_ok {s : ByteArray} {P : Nd → Bool} (h : isN s P = true) : ∃ n, parseN s = some n ∧ P n = true := by
 unfold isN at h
 cases e : parseN s with
 | none => rw [e] at h; cases h
 | some n => rw [e] at h; exact ⟨n, rfl, h⟩
theorem live_b : isN (⟨#[83, 85, 77, 40, 65, 49, 44, 50, 41]⟩ : ByteArray) (fun n => checkN n == 0) = true := by decide +kernel
theorem live_c : isN (⟨#[83, 85, 77, 40, 41]⟩ : ByteArray) (fun n => checkN n == 10) = true := by decide +kernel
theorem live_d : isN (⟨#[70, 79, 79, 40, 49, 41]⟩ : ByteArray) (fun n => checkN n == 8) = true := by decide +kernel
theorem live_g : isN (⟨#[86, 76, 79, 79, 75, 85, 80, 40, 49, 44, 50, 44, 51, 41]⟩ : ByteArray) (fun n => checkN n == 2) = true := by decide +kernel
theorem live_a : isN (⟨#[65, 49, 43, 83, 85, 77, 40, 66, 50, 58, 65, 49, 41, 42, 65, 49]⟩ : ByteArray) (fun n => checkI n == 0 && (decide ((outS (preN n)).length = 2) && decide (rd_T58 (outS (preN n)) 1 = ⟨1, 1, 2, 2⟩))) = true := by decide +kernel
theorem live_h : isN (⟨#[49, 43, 83, 85, 77, 40, 50, 41]⟩ : ByteArray) (fun n => checkI n == 0 && (preN n).any (callB (⟨#[83, 85, 77]⟩ : ByteArray))) = true := by decide +kernel
theorem lives9_walk (a b c d g h : Nd) (rl : List S_R) (w : World) (HL : Aside0 (rl.length = 2)) (HQ : Aside0 (rd_T58 rl 1 = ⟨1, 1, 2, 2⟩))
  (HOa : Aside0 (∀ W, Calls Tryz.prog 32 #[.string (⟨#[65, 49, 43, 83, 85, 77, 40, 66, 50, 58, 65, 49, 41, 42, 65, 49]⟩ : ByteArray)] W (NodeOut a W)))
  (HOb : Aside0 (∀ W, Calls Tryz.prog 32 #[.string (⟨#[83, 85, 77, 40, 65, 49, 44, 50, 41]⟩ : ByteArray)] W (NodeOut b W)))
  (HOc : Aside0 (∀ W, Calls Tryz.prog 32 #[.string (⟨#[83, 85, 77, 40, 41]⟩ : ByteArray)] W (NodeOut c W)))
  (HOd : Aside0 (∀ W, Calls Tryz.prog 32 #[.string (⟨#[70, 79, 79, 40, 49, 41]⟩ : ByteArray)] W (NodeOut d W)))
  (HOg : Aside0 (∀ W, Calls Tryz.prog 32 #[.string (⟨#[86, 76, 79, 79, 75, 85, 80, 40, 49, 44, 50, 44, 51, 41]⟩ : ByteArray)] W (NodeOut g W)))
  (HOh : Aside0 (∀ W, Calls Tryz.prog 32 #[.string (⟨#[49, 43, 83, 85, 77, 40, 50, 41]⟩ : ByteArray)] W (NodeOut h W)))
  (HR : Aside0 (∀ W A_ c_, Below w.heap.size w W → KidsC W A_ c_ a.f5 → Calls Tryz.prog 17 #[nodeV a A_ c_] W fun e w' => (∃ A2 c2, e = .returned (.tuple #[.slice A2 2 c2, .int .i64 0]) ∧ Kd.C k58 w' A2 2 rl) ∧ Below W.heap.size W w'))
  (HC_b : Aside0 (∀ W A_ c_, Below w.heap.size w W → KidsC W A_ c_ b.f5 → Calls Tryz.prog 15 #[nodeV b A_ c_] W fun e w' => e = .returned (.int .i64 0) ∧ Below W.heap.size W w'))
  (HC_c : Aside0 (∀ W A_ c_, Below w.heap.size w W → KidsC W A_ c_ c.f5 → Calls Tryz.prog 15 #[nodeV c A_ c_] W fun e w' => e = .returned (.int .i64 10) ∧ Below W.heap.size W w'))
  (HC_d : Aside0 (∀ W A_ c_, Below w.heap.size w W → KidsC W A_ c_ d.f5 → Calls Tryz.prog 15 #[nodeV d A_ c_] W fun e w' => e = .returned (.int .i64 8) ∧ Below W.heap.size W w'))
  (HC_g : Aside0 (∀ W A_ c_, Below w.heap.size w W → KidsC W A_ c_ g.f5 → Calls Tryz.prog 15 #[nodeV g A_ c_] W fun e w' => e = .returned (.int .i64 2) ∧ Below W.heap.size W w'))
  (HU : Aside0 (∀ W A_ c_, Below w.heap.size w W → KidsC W A_ c_ h.f5 → Calls Tryz.prog 20 #[nodeV h A_ c_, .string (⟨#[83, 85, 77]⟩ : ByteArray)] W fun e w' => e = .returned (.bool true) ∧ Below W.heap.size W w')) :
  Calls Tryz.prog 13 #[] w fun e w' => e = .returned (.bool true) ∧ Below w.heap.size w w' := by
 go_enter Tryz.func13, Tryz.ntmps13
 go_wp2_with (first
  | (go_at_call 32; (with_reducible refine (HOa.out _).mono ?_); rintro e w1 ⟨A1, c1, rfl, hF, hb⟩; have K1 := Aside0.mk hF.now; have HB1 := Aside0.mk hb; clear hb hF)
  | (go_at_call 17; (with_reducible refine (HR.out _ _ _ HB1.out K1.out).mono ?_); rintro e w2 ⟨⟨A2, c2, rfl, hC⟩, hb⟩; have HB2 := Aside0.mk (below_step HB1.out hb); have HC2 := Aside0.mk hC; clear hb hC HB1 K1)
  | (go_at_call 32; (with_reducible refine (HOb.out _).mono ?_); rintro e w3 ⟨A3, c3, rfl, hF, hb⟩; have K3 := Aside0.mk hF.now; have HB3 := Aside0.mk (below_step HB2.out hb); have HC3 := Aside0.mk (Kd.C_below HC2.out hb); clear HC2; clear hb hF HB2)
  | (go_at_call 15; (with_reducible refine (HC_b.out _ _ _ HB3.out K3.out).mono ?_); rintro e w4 ⟨rfl, hb⟩; have HB4 := Aside0.mk (below_step HB3.out hb); have HC4 := Aside0.mk (Kd.C_below HC3.out hb); clear hb HB3 K3 HC3)
  | (go_at_call 32; (with_reducible refine (HOc.out _).mono ?_); rintro e w5 ⟨A5, c5, rfl, hF, hb⟩; have K5 := Aside0.mk hF.now; have HB5 := Aside0.mk (below_step HB4.out hb); have HC5 := Aside0.mk (Kd.C_below HC4.out hb); clear HC4; clear hb hF HB4)
  | (go_at_call 15; (with_reducible refine (HC_c.out _ _ _ HB5.out K5.out).mono ?_); rintro e w6 ⟨rfl, hb⟩; have HB6 := Aside0.mk (below_step HB5.out hb); have HC6 := Aside0.mk (Kd.C_below HC5.out hb); clear hb HB5 K5 HC5)
  | (go_at_call 32; (with_reducible refine (HOd.out _).mono ?_); rintro e w7 ⟨A7, c7, rfl, hF, hb⟩; have K7 := Aside0.mk hF.now; have HB7 := Aside0.mk (below_step HB6.out hb); have HC7 := Aside0.mk (Kd.C_below HC6.out hb); clear HC6; clear hb hF HB6)
  | (go_at_call 15; (with_reducible refine (HC_d.out _ _ _ HB7.out K7.out).mono ?_); rintro e w8 ⟨rfl, hb⟩; have HB8 := Aside0.mk (below_step HB7.out hb); have HC8 := Aside0.mk (Kd.C_below HC7.out hb); clear hb HB7 K7 HC7)
  | (go_at_call 32; (with_reducible refine (HOg.out _).mono ?_); rintro e w9 ⟨A9, c9, rfl, hF, hb⟩; have K9 := Aside0.mk hF.now; have HB9 := Aside0.mk (below_step HB8.out hb); have HC9 := Aside0.mk (Kd.C_below HC8.out hb); clear HC8; clear hb hF HB8)
  | (go_at_call 15; (with_reducible refine (HC_g.out _ _ _ HB9.out K9.out).mono ?_); rintro e w10 ⟨rfl, hb⟩; have HB10 := Aside0.mk (below_step HB9.out hb); have HC10 := Aside0.mk (Kd.C_below HC9.out hb); clear hb HB9 K9 HC9; obtain ⟨ad, e_, v0, v1, v2, v3⟩ := at_T58 HC10.out 1 (by decide) (by decide); rw [HQ.out] at v0 v1 v2 v3; cases e_; have u0 : w10.cell? ⟨ad.block, ad.off + 4, none⟩ = some (.int .i64 1) := v0; have u1 : w10.cell? ⟨ad.block, ad.off + 4 + 1, none⟩ = some (.int .i64 1) := v1; have u2 : w10.cell? ⟨ad.block, ad.off + 4 + 2, none⟩ = some (.int .i64 2) := v2; have u3 : w10.cell? ⟨ad.block, ad.off + 4 + 3, none⟩ = some (.int .i64 2) := v3; clear v0 v1 v2 v3)
  | (go_at_call 32; (with_reducible refine (HOh.out _).mono ?_); rintro e w11 ⟨A11, c11, rfl, hF, hb⟩; have K11 := Aside0.mk hF.now; have HB11 := Aside0.mk (below_step HB10.out hb); have HC11 := Aside0.mk (Kd.C_below HC10.out hb); clear HC10; clear hb hF HB10)
  | (go_at_call 20; (with_reducible refine (HU.out _ _ _ HB11.out K11.out).mono ?_); rintro e w12 ⟨rfl, hb⟩; have HB12 := Aside0.mk (below_step HB11.out hb); clear hb))
 go_ret
 exact ⟨rfl, HB12.out⟩
theorem formsCheck_calls (n : Nd) (A : Option Addr) (c : Nat) (w : World) (hK : KidsC w A c n.f5) (hL0 : Aside0 (LaidW w)) :
  Calls Tryz.prog 15 #[nodeV n A c] w fun e w' => e = .returned (.int .i64 (checkN n)) ∧ Below w.heap.size w w' := by
 unfold checkN
 by_cases h : checkI n = 0
 ·rw [if_pos h]
  exact callsIn_wide.1 (fcheck_go _ n A c w hK ⟨fun W hW => by
   have := treeCheck_calls n A c W (hK.below hW) (LaidAt hL0 hW)
   rwa [h] at this⟩ ⟨fun m A_ c_ W hW hm => called_calls m A_ c_ W hm (LaidAt hL0 hW)⟩)
 ·rw [if_neg h]
  exact fcheck_bad n A c _ h w ⟨fun W hW => treeCheck_calls n A c W (hK.below hW) (LaidAt hL0 hW)⟩
theorem uses_calls (n : Nd) (A : Option Addr) (c : Nat) (name : ByteArray) (w : World) (hK : KidsC w A c n.f5) (hL0 : Aside0 (LaidW w)) :
  Calls Tryz.prog 20 #[nodeV n A c, .string name] w fun e w' => e = .returned (.bool (checkI n == 0 && (preN n).any (callB name))) ∧ Below w.heap.size w w' := by
 by_cases h : checkI n = 0
 ·rw [h]
  exact callsIn_wide.1 (uses_go n A c name w hK ⟨fun W hW => by
   have := treeCheck_calls n A c W (hK.below hW) (LaidAt hL0 hW)
   rwa [h] at this⟩)
 ·rw [show (checkI n == 0) = false by simp [h]]
  exact uses_bad n A c name _ h w ⟨fun W hW => treeCheck_calls n A c W (hK.below hW) (LaidAt hL0 hW)⟩
theorem lives_calls (w : World) (hL0 : Aside0 (LaidW w)) : Calls Tryz.prog 13 #[] w fun e w' => e = .returned (.bool true) ∧ Below w.heap.size w w' := by
 obtain ⟨a, ea, ha⟩ := isN_ok live_a
 obtain ⟨b, eb, hb⟩ := isN_ok live_b
 obtain ⟨c, ec, hc⟩ := isN_ok live_c
 obtain ⟨d, ed, hd⟩ := isN_ok live_d
 obtain ⟨g, eg, hg⟩ := isN_ok live_g
 obtain ⟨h, eh, hh⟩ := isN_ok live_h
 simp only [Bool.and_eq_true, beq_iff_eq, decide_eq_true_eq] at ha hb hc hd hg hh
 refine lives9_walk a b c d g h (outS (preN a)) w ⟨ha.2.1⟩ ⟨ha.2.2⟩ ⟨of_parseN ea⟩ ⟨of_parseN eb⟩ ⟨of_parseN ec⟩ ⟨of_parseN ed⟩ ⟨of_parseN eg⟩ ⟨of_parseN eh⟩ ⟨fun W A_ c_ hW hK => ?_⟩ ⟨fun W A_ c_ hW hK => ?_⟩ ⟨fun W A_ c_ hW hK => ?_⟩ ⟨fun W A_ c_ hW hK => ?_⟩ ⟨fun W A_ c_ hW hK => ?_⟩ ⟨fun W A_ c_ hW hK => ?_⟩
 ·refine (rects_ok a A_ c_ W hK ha.1 (LaidAt hL0 hW)).mono ?_
  rintro e w' ⟨⟨A2, c2, rfl, _, hC, _⟩, hb⟩
  rw [ha.2.1] at hC
  rw [ha.2.1]
  exact ⟨⟨A2, c2, rfl, hC⟩, hb⟩
 ·have := formsCheck_calls b A_ c_ W hK (LaidAt hL0 hW); rwa [hb] at this
 ·have := formsCheck_calls c A_ c_ W hK (LaidAt hL0 hW); rwa [hc] at this
 ·have := formsCheck_calls d A_ c_ W hK (LaidAt hL0 hW); rwa [hd] at this
 ·have := formsCheck_calls g A_ c_ W hK (LaidAt hL0 hW); rwa [hg] at this
 ·have := uses_calls h A_ c_ (⟨#[83, 85, 77]⟩ : ByteArray) W hK (LaidAt hL0 hW); rw [hh.1, hh.2] at this; exact this
theorem refCalled_calls (name : ByteArray) (d : Nat) : ∀ (n : Nd) (A : Option Addr) (c : Nat) (w : World) (hd : szN n < d) (hK : KidsC w A c n.f5),
  Calls Tryz.prog 43 #[nodeV n A c, .string name] w fun e w' => e = .returned (.bool (usesS (callB name) n)) ∧ Below w.heap.size w w' := by
 induction d with
 | zero => intro n A c w hd; omega
 | succ d ih =>
  intro n A c w hd hK
  obtain ⟨hlc, hC⟩ := hK
  have hmax := hC.2.1
  have HC := Aside0.mk hC
  have HI := Aside0.mk ih
  have HD := Aside0.mk hd
  clear hC ih hd
  have HR := Aside0.mk (usesS_eq (callB name) n)
  have B1 := Aside0.mk (newBlk w (.cells (nodeA n A c) 44))
  have hb1 := fun (i : Nat) => blk_cell (newBlk w (.cells (nodeA n A c) 44)) i
  generalize usesS (callB name) n = r at HR ⊢
  by_cases h6 : n.f0 = 6
  ·have h6b : (n.f0 == 6) = true := by simp [h6]
   by_cases hs : n.f4 = name
   ·have HS : Aside0 (r = (true || usesL (callB name) (n.f5.drop 0))) := ⟨HR.out.trans (by rw [show callB name n = true by unfold callB; simp [h6, hs]]; rfl)⟩
    have hsb : (n.f4.toList == name.toList) = true := by rw [hs]; exact beq_self_eq_true _
    clear HR h6 hs
    go_enter Tryz.func43, Tryz.ntmps43
    go_wp2
    go_loopw [5, 6] (fun v i wr => ∃ (q : Nat) (s : Bool), q ≤ n.f5.length ∧ i = .int .i64 q ∧ v = .bool s ∧ Aside0 (r = (s || usesL (callB name) (n.f5.drop q))) ∧ Aside0 (Below w.heap.size w wr) ∧ Aside0 (wr.heap[w.heap.size]? = some (.cells (nodeA n A c) 44 (0, 0)))) (fun _ i _ => n.f5.length - (intOf i).toNat)
    case atStart => exact ⟨0, true, by omega, rfl, rfl, HS, ⟨bel1 w _⟩, B1⟩
    case round =>
     clear HS B1 hb1
     obtain ⟨q, s, hk, rfl, rfl, HX, HB, HBk⟩ := hrel
     have hc15 : wr.cell? ⟨w.heap.size, 15, none⟩ = some (.slice A n.f5.length c) := (blk_cell HBk.out 15).trans rfl
     by_cases hkl : q < n.f5.length
     ·obtain ⟨ad, A', c', e, hK', hCA⟩ := kid_at (Kd.C_below HC.out HB.out) q hkl
      subst e
      have HCA := Aside0.mk hCA
      have HN := Aside0.mk (show usesL (callB name) (n.f5.drop q) = (usesS (callB name) n.f5[q] || usesL (callB name) (n.f5.drop (q + 1))) by rw [List.drop_eq_getElem_cons hkl, usesL])
      have HCk := Aside0.mk (HI.out n.f5[q] A' c' wr (by have := kid_lt (List.getElem_mem hkl); have := HD.out; omega) hK')
      clear hK' hCA
      cases s with
      | true =>
       go_wp2
       go_roundw
       case rel => exact ⟨q + 1, true, by omega, by go_num, rfl, ⟨HX.out⟩, HB, HBk⟩
       case measure => simp [intOf]; omega
      | false =>
       generalize usesS (callB name) n.f5[q] = z at HN HCk
       go_wp2_with (first
        | ((with_reducible refine gate_dst (N := 29) rfl ?_); (refine gate_guard (by rfl) ?_; dsimp only); refine wpLdAt 29 rfl rfl 44 (.tmp 28) rfl (ad.add (q * 16)) rfl _ (nodeA n.f5[q] A' c') HCA.out Tryz.underlying44 rfl (by kernel_rfl) ?_)
        | (go_at_call 43; (with_reducible refine HCk.out.mono ?_); rintro e w1 ⟨rfl, hb⟩; have HB1 := Aside0.mk hb; clear hb))
       go_roundw
       case rel => exact ⟨q + 1, z, by omega, by go_num, rfl, ⟨HX.out.trans (by rw [HN.out]; rfl)⟩, ⟨below_step HB.out HB1.out⟩, ⟨blk_below HBk.out HB1.out⟩⟩
       case measure => simp [intOf]; omega
     ·have HN : Aside0 (r = s) := ⟨HX.out.trans (by rw [List.drop_of_length_le (by omega), usesL, Bool.or_false])⟩
      go_wp2
      go_ret
      exact ⟨ret_b HN.out.symm, HB.out⟩
   ·have HS : Aside0 (r = (false || usesL (callB name) (n.f5.drop 0))) := ⟨HR.out.trans (by rw [callB_ne hs]; rfl)⟩
    have hsb : (n.f4.toList == name.toList) = false := beq_eq_false_iff_ne.2 (fun e => hs (by rw [ByteArray.toList_eq, ByteArray.toList_eq] at e; exact ByteArray.ext (Array.toList_inj.1 e)))
    clear HR h6 hs
    go_enter Tryz.func43, Tryz.ntmps43
    go_wp2
    go_loopw [5, 6] (fun v i wr => ∃ (q : Nat) (s : Bool), q ≤ n.f5.length ∧ i = .int .i64 q ∧ v = .bool s ∧ Aside0 (r = (s || usesL (callB name) (n.f5.drop q))) ∧ Aside0 (Below w.heap.size w wr) ∧ Aside0 (wr.heap[w.heap.size]? = some (.cells (nodeA n A c) 44 (0, 0)))) (fun _ i _ => n.f5.length - (intOf i).toNat)
    case atStart => exact ⟨0, false, by omega, rfl, rfl, HS, ⟨bel1 w _⟩, B1⟩
    case round =>
     clear HS B1 hb1
     obtain ⟨q, s, hk, rfl, rfl, HX, HB, HBk⟩ := hrel
     have hc15 : wr.cell? ⟨w.heap.size, 15, none⟩ = some (.slice A n.f5.length c) := (blk_cell HBk.out 15).trans rfl
     by_cases hkl : q < n.f5.length
     ·obtain ⟨ad, A', c', e, hK', hCA⟩ := kid_at (Kd.C_below HC.out HB.out) q hkl
      subst e
      have HCA := Aside0.mk hCA
      have HN := Aside0.mk (show usesL (callB name) (n.f5.drop q) = (usesS (callB name) n.f5[q] || usesL (callB name) (n.f5.drop (q + 1))) by rw [List.drop_eq_getElem_cons hkl, usesL])
      have HCk := Aside0.mk (HI.out n.f5[q] A' c' wr (by have := kid_lt (List.getElem_mem hkl); have := HD.out; omega) hK')
      clear hK' hCA
      cases s with
      | true =>
       go_wp2
       go_roundw
       case rel => exact ⟨q + 1, true, by omega, by go_num, rfl, ⟨HX.out⟩, HB, HBk⟩
       case measure => simp [intOf]; omega
      | false =>
       generalize usesS (callB name) n.f5[q] = z at HN HCk
       go_wp2_with (first
        | ((with_reducible refine gate_dst (N := 29) rfl ?_); (refine gate_guard (by rfl) ?_; dsimp only); refine wpLdAt 29 rfl rfl 44 (.tmp 28) rfl (ad.add (q * 16)) rfl _ (nodeA n.f5[q] A' c') HCA.out Tryz.underlying44 rfl (by kernel_rfl) ?_)
        | (go_at_call 43; (with_reducible refine HCk.out.mono ?_); rintro e w1 ⟨rfl, hb⟩; have HB1 := Aside0.mk hb; clear hb))
       go_roundw
       case rel => exact ⟨q + 1, z, by omega, by go_num, rfl, ⟨HX.out.trans (by rw [HN.out]; rfl)⟩, ⟨below_step HB.out HB1.out⟩, ⟨blk_below HBk.out HB1.out⟩⟩
       case measure => simp [intOf]; omega
     ·have HN : Aside0 (r = s) := ⟨HX.out.trans (by rw [List.drop_of_length_le (by omega), usesL, Bool.or_false])⟩
      go_wp2
      go_ret
      exact ⟨ret_b HN.out.symm, HB.out⟩
  ·have HS : Aside0 (r = (false || usesL (callB name) (n.f5.drop 0))) := ⟨HR.out.trans (by rw [show callB name n = false by unfold callB; simp [h6]]; rfl)⟩
   have h6b : (n.f0 == 6) = false := by simp [h6]
   clear HR h6
   go_enter Tryz.func43, Tryz.ntmps43
   go_wp2
   go_loopw [5, 6] (fun v i wr => ∃ (q : Nat) (s : Bool), q ≤ n.f5.length ∧ i = .int .i64 q ∧ v = .bool s ∧ Aside0 (r = (s || usesL (callB name) (n.f5.drop q))) ∧ Aside0 (Below w.heap.size w wr) ∧ Aside0 (wr.heap[w.heap.size]? = some (.cells (nodeA n A c) 44 (0, 0)))) (fun _ i _ => n.f5.length - (intOf i).toNat)
   case atStart => exact ⟨0, false, by omega, rfl, rfl, HS, ⟨bel1 w _⟩, B1⟩
   case round =>
    clear HS B1 hb1
    obtain ⟨q, s, hk, rfl, rfl, HX, HB, HBk⟩ := hrel
    have hc15 : wr.cell? ⟨w.heap.size, 15, none⟩ = some (.slice A n.f5.length c) := (blk_cell HBk.out 15).trans rfl
    by_cases hkl : q < n.f5.length
    ·obtain ⟨ad, A', c', e, hK', hCA⟩ := kid_at (Kd.C_below HC.out HB.out) q hkl
     subst e
     have HCA := Aside0.mk hCA
     have HN := Aside0.mk (show usesL (callB name) (n.f5.drop q) = (usesS (callB name) n.f5[q] || usesL (callB name) (n.f5.drop (q + 1))) by rw [List.drop_eq_getElem_cons hkl, usesL])
     have HCk := Aside0.mk (HI.out n.f5[q] A' c' wr (by have := kid_lt (List.getElem_mem hkl); have := HD.out; omega) hK')
     clear hK' hCA
     cases s with
     | true =>
      go_wp2
      go_roundw
      case rel => exact ⟨q + 1, true, by omega, by go_num, rfl, ⟨HX.out⟩, HB, HBk⟩
      case measure => simp [intOf]; omega
     | false =>
      generalize usesS (callB name) n.f5[q] = z at HN HCk
      go_wp2_with (first
       | ((with_reducible refine gate_dst (N := 29) rfl ?_); (refine gate_guard (by rfl) ?_; dsimp only); refine wpLdAt 29 rfl rfl 44 (.tmp 28) rfl (ad.add (q * 16)) rfl _ (nodeA n.f5[q] A' c') HCA.out Tryz.underlying44 rfl (by kernel_rfl) ?_)
       | (go_at_call 43; (with_reducible refine HCk.out.mono ?_); rintro e w1 ⟨rfl, hb⟩; have HB1 := Aside0.mk hb; clear hb))
      go_roundw
      case rel => exact ⟨q + 1, z, by omega, by go_num, rfl, ⟨HX.out.trans (by rw [HN.out]; rfl)⟩, ⟨below_step HB.out HB1.out⟩, ⟨blk_below HBk.out HB1.out⟩⟩
      case measure => simp [intOf]; omega
    ·have HN : Aside0 (r = s) := ⟨HX.out.trans (by rw [List.drop_of_length_le (by omega), usesL, Bool.or_false])⟩
     go_wp2
     go_ret
     exact ⟨ret_b HN.out.symm, HB.out⟩
theorem refcheck_bad (n : Nd) (A : Option Addr) (c : Nat) (q : Int) (hq : ¬q = 0) (w : World) (HCk : Aside0 (Calls Tryz.prog 37 #[nodeV n A c] (w.alloc (.cells (nodeA n A c) 44)) fun e w' => e = .returned (.int .i64 q) ∧ Below (w.alloc (.cells (nodeA n A c) 44)).heap.size (w.alloc (.cells (nodeA n A c) 44)) w')) :
  Calls Tryz.prog 16 #[nodeV n A c] w fun e w' => e = .returned (.int .i64 q) ∧ Below w.heap.size w w' := by
 have q1 : (q != 0) = true := by simp [hq]
 have HB := Aside0.mk (bel1 w (.cells (nodeA n A c) 44))
 have B1 := Aside0.mk (newBlk w (.cells (nodeA n A c) 44))
 go_enter Tryz.func16, Tryz.ntmps16
 go_wp2_with (first
  | ((with_reducible refine gate_dst (N := 4) rfl ?_); refine wpPartLd 4 rfl rfl 44 (.tmp 1) rfl _ rfl _ (nodeA n A c) [] B1.out rfl Tryz.underlying44 rfl (by kernel_rfl) ?_)
  | (go_at_call 37; (with_reducible refine (HCk.out.mono ?_)); rintro e w1 ⟨rfl, hb⟩; have HB1 := Aside0.mk (below_step HB.out hb); have C1 := Aside0.mk (blk_below B1.out hb); clear hb))
 go_ret
 exact ⟨rfl, HB1.out⟩
theorem refcheck_go (n : Nd) (A : Option Addr) (c : Nat) (q : Int) (w : World) (HCk : Aside0 (Calls Tryz.prog 37 #[nodeV n A c] (w.alloc (.cells (nodeA n A c) 44)) fun e w' => e = .returned (.int .i64 0) ∧ Below (w.alloc (.cells (nodeA n A c) 44)).heap.size (w.alloc (.cells (nodeA n A c) 44)) w')) (HCl : Aside0 (∀ W, Below w.heap.size w W → Calls Tryz.prog 38 #[nodeV n A c] W fun e w' => e = .returned (.int .i64 q) ∧ Below W.heap.size W w')) :
  Calls Tryz.prog 16 #[nodeV n A c] w fun e w' => e = .returned (.int .i64 q) ∧ Below w.heap.size w w' := by
 have HB := Aside0.mk (bel1 w (.cells (nodeA n A c) 44))
 have B1 := Aside0.mk (newBlk w (.cells (nodeA n A c) 44))
 go_enter Tryz.func16, Tryz.ntmps16
 go_wp2_with (first
  | ((with_reducible refine gate_dst (N := 4) rfl ?_); refine wpPartLd 4 rfl rfl 44 (.tmp 1) rfl _ rfl _ (nodeA n A c) [] B1.out rfl Tryz.underlying44 rfl (by kernel_rfl) ?_)
  | (go_at_call 37; (with_reducible refine (HCk.out.mono ?_)); rintro e w1 ⟨rfl, hb⟩; have HB1 := Aside0.mk (below_step HB.out hb); have C1 := Aside0.mk (blk_below B1.out hb); clear hb)
  | ((with_reducible refine gate_dst (N := 9) rfl ?_); refine wpPartLd 9 rfl rfl 44 (.tmp 1) rfl _ rfl _ (nodeA n A c) [] C1.out rfl Tryz.underlying44 rfl (by kernel_rfl) ?_)
  | (go_at_call 38; (with_reducible refine (HCl.out _ HB1.out).mono ?_); rintro e w2 ⟨rfl, hb⟩; have HB2 := Aside0.mk (below_step HB1.out hb); clear hb))
 go_ret
 exact ⟨rfl, HB2.out⟩
def checkD (n : Nd) : Int := if checkI n = 0 then callsS (callE findT lostR) n else checkI n
theorem refCheck_calls (n : Nd) (A : Option Addr) (c : Nat) (w : World) (hK : KidsC w A c n.f5) : Calls Tryz.prog 16 #[nodeV n A c] w fun e w' => e = .returned (.int .i64 (checkD n)) ∧ Below w.heap.size w w' := by
 unfold checkD
 have hk := Check_calls n A c (w.alloc (.cells (nodeA n A c) 44)) (hK.below (bel1 w _))
 by_cases h : checkI n = 0
 ·rw [if_pos h]
  rw [h] at hk
  exact refcheck_go n A c _ w ⟨hk⟩ ⟨fun W hW => refCalls_calls findT w ⟨fun s f e => findT_wants e⟩ ⟨fun s W => refFind_calls s W⟩ (szN n + 1) n A c W (Nat.lt_succ_self _) (hK.below hW)⟩
 ·rw [if_neg h]
  exact refcheck_bad n A c _ h w ⟨hk⟩
theorem checkD_eq (n : Nd) : checkD n = checkN n := by
 unfold checkD checkN
 by_cases h : checkI n = 0
 ·rw [if_pos h, if_pos h, calls_first]
  refine firstE_congr _ (fun x hx => ?_)
  have hr := check_right h
  unfold callE callF
  by_cases h6 : x.f0 = 6
  ·rw [if_pos h6, if_pos h6]
   have hk : ∀ y ∈ x.f5, lostR y = lostB y := fun y hy => by
    have hm : y ∈ preN n := pre_mem hx hy
    have := allS_mem _ n hr y hm
    simp only [Bool.and_eq_true] at this
    exact (lost_of_right y this).symm
   exact calledR_congr _ _ hk
  ·rw [if_neg h6, if_neg h6]
 ·rw [if_neg h, if_neg h]
theorem refuses_bad (n : Nd) (A : Option Addr) (c : Nat) (name : ByteArray) (q : Int) (hq : ¬q = 0) (w : World) (HCk : Aside0 (Calls Tryz.prog 37 #[nodeV n A c] (w.alloc (.cells (nodeA n A c) 44)) fun e w' => e = .returned (.int .i64 q) ∧ Below (w.alloc (.cells (nodeA n A c) 44)).heap.size (w.alloc (.cells (nodeA n A c) 44)) w')) :
  Calls Tryz.prog 21 #[nodeV n A c, .string name] w fun e w' => e = .returned (.bool false) ∧ Below w.heap.size w w' := by
 have q1 : (q == 0) = false := by simp [hq]
 have HB := Aside0.mk (bel1 w (.cells (nodeA n A c) 44))
 have B1 := Aside0.mk (newBlk w (.cells (nodeA n A c) 44))
 go_enter Tryz.func21, Tryz.ntmps21
 go_wp2_with (first
  | ((with_reducible refine gate_dst (N := 5) rfl ?_); refine wpPartLd 5 rfl rfl 44 (.tmp 2) rfl _ rfl _ (nodeA n A c) [] B1.out rfl Tryz.underlying44 rfl (by kernel_rfl) ?_)
  | (go_at_call 37; (with_reducible refine (HCk.out.mono ?_)); rintro e w1 ⟨rfl, hb⟩; have HB1 := Aside0.mk (below_step HB.out hb); have C1 := Aside0.mk (blk_below B1.out hb); clear hb))
 go_ret
 exact ⟨rfl, HB1.out⟩
theorem refuses_go (n : Nd) (A : Option Addr) (c : Nat) (name : ByteArray) (u : Bool) (w : World) (HCk : Aside0 (Calls Tryz.prog 37 #[nodeV n A c] (w.alloc (.cells (nodeA n A c) 44)) fun e w' => e = .returned (.int .i64 0) ∧ Below (w.alloc (.cells (nodeA n A c) 44)).heap.size (w.alloc (.cells (nodeA n A c) 44)) w')) (HCl : Aside0 (∀ W, Below w.heap.size w W → Calls Tryz.prog 43 #[nodeV n A c, .string name] W fun e w' => e = .returned (.bool u) ∧ Below W.heap.size W w')) :
  Calls Tryz.prog 21 #[nodeV n A c, .string name] w fun e w' => e = .returned (.bool u) ∧ Below w.heap.size w w' := by
 have HB := Aside0.mk (bel1 w (.cells (nodeA n A c) 44))
 have B1 := Aside0.mk (newBlk w (.cells (nodeA n A c) 44))
 go_enter Tryz.func21, Tryz.ntmps21
 go_wp2_with (first
  | ((with_reducible refine gate_dst (N := 5) rfl ?_); refine wpPartLd 5 rfl rfl 44 (.tmp 2) rfl _ rfl _ (nodeA n A c) [] B1.out rfl Tryz.underlying44 rfl (by kernel_rfl) ?_)
  | (go_at_call 37; (with_reducible refine (HCk.out.mono ?_)); rintro e w1 ⟨rfl, hb⟩; have HB1 := Aside0.mk (below_step HB.out hb); have C1 := Aside0.mk (blk_below B1.out hb); clear hb)
  | ((with_reducible refine gate_dst (N := 9) rfl ?_); (refine gate_guard (by rfl) ?_; dsimp only); refine wpPartLd 9 rfl rfl 44 (.tmp 2) rfl _ rfl _ (nodeA n A c) [] C1.out rfl Tryz.underlying44 rfl (by kernel_rfl) ?_)
  | (go_at_call 43; (with_reducible refine (HCl.out _ HB1.out).mono ?_); rintro e w2 ⟨rfl, hb⟩; have HB2 := Aside0.mk (below_step HB1.out hb); clear hb))
 go_ret
 exact ⟨rfl, HB2.out⟩
theorem refUses_calls (n : Nd) (A : Option Addr) (c : Nat) (name : ByteArray) (w : World) (hK : KidsC w A c n.f5) : Calls Tryz.prog 21 #[nodeV n A c, .string name] w fun e w' => e = .returned (.bool (checkI n == 0 && (preN n).any (callB name))) ∧ Below w.heap.size w w' := by
 have hk := Check_calls n A c (w.alloc (.cells (nodeA n A c) 44)) (hK.below (bel1 w _))
 by_cases h : checkI n = 0
 ·rw [h] at hk ⊢
  rw [← uses_any]
  exact refuses_go n A c name _ w ⟨hk⟩ ⟨fun W hW => refCalled_calls name (szN n + 1) n A c W (Nat.lt_succ_self _) (hK.below hW)⟩
 ·rw [show (checkI n == 0) = false by simp [h]]
  exact refuses_bad n A c name _ h w ⟨hk⟩
def RectsOut (l : List S_R) (q : Int) (w : World) (e : Ending) (w' : World) : Prop := ∃ A2 c2, e = .returned (.tuple #[.slice A2 l.length c2, .int .i64 q]) ∧ l.length ≤ c2 ∧ Kd.C k58 w' A2 l.length l ∧ Below w.heap.size w w'
def rectsL (n : Nd) : List S_R := if checkI n = 0 then outS (preN n) else []
theorem rects_calls (n : Nd) (A : Option Addr) (c : Nat) (w : World) (hK : KidsC w A c n.f5) (hL0 : Aside0 (LaidW w)) : Calls Tryz.prog 17 #[nodeV n A c] w (RectsOut (rectsL n) (checkI n) w) := by
 unfold rectsL
 by_cases h : checkI n = 0
 ·rw [if_pos h, h]
  refine (rects_ok n A c w hK h hL0).mono ?_
  rintro e w' ⟨⟨A2, c2, rfl, hl, hC, _⟩, hb⟩
  exact ⟨A2, c2, rfl, hl, hC, hb⟩
 ·rw [if_neg h]
  refine (rects_bad n A c _ h w ⟨fun W hW => treeCheck_calls n A c W (hK.below hW) (LaidAt hL0 hW)⟩).mono ?_
  rintro e w' ⟨rfl, hb⟩
  exact ⟨none, 0, rfl, Nat.le_refl _, Kd.C_nil _ _, hb⟩
theorem refrects_bad (n : Nd) (A : Option Addr) (c : Nat) (q : Int) (hq : ¬q = 0) (w : World) (HCk : Aside0 (Calls Tryz.prog 37 #[nodeV n A c] (w.alloc (.cells (nodeA n A c) 44)) fun e w' => e = .returned (.int .i64 q) ∧ Below (w.alloc (.cells (nodeA n A c) 44)).heap.size (w.alloc (.cells (nodeA n A c) 44)) w')) :
  Calls Tryz.prog 18 #[nodeV n A c] w fun e w' => e = .returned (.tuple #[.slice none 0 0, .int .i64 q]) ∧ Below w.heap.size w w' := by
 have q1 : (q != 0) = true := by simp [hq]
 have HB := Aside0.mk (bel1 w (.cells (nodeA n A c) 44))
 have B1 := Aside0.mk (newBlk w (.cells (nodeA n A c) 44))
 go_enter Tryz.func18, Tryz.ntmps18
 go_wp2_with (first
  | ((with_reducible refine gate_dst (N := 5) rfl ?_); refine wpPartLd 5 rfl rfl 44 (.tmp 1) rfl _ rfl _ (nodeA n A c) [] B1.out rfl Tryz.underlying44 rfl (by kernel_rfl) ?_)
  | (go_at_call 37; (with_reducible refine (HCk.out.mono ?_)); rintro e w1 ⟨rfl, hb⟩; have HB1 := Aside0.mk (below_step HB.out hb); have C1 := Aside0.mk (blk_below B1.out hb); clear hb))
 go_ret2
 exact ⟨rfl, HB1.out⟩
theorem refrects_go (n : Nd) (A : Option Addr) (c : Nat) (l : List S_R) (w : World) (HCk : Aside0 (Calls Tryz.prog 37 #[nodeV n A c] (w.alloc (.cells (nodeA n A c) 44)) fun e w' => e = .returned (.int .i64 0) ∧ Below (w.alloc (.cells (nodeA n A c) 44)).heap.size (w.alloc (.cells (nodeA n A c) 44)) w')) (HNm : Aside0 (∀ W, Below w.heap.size w W → Calls Tryz.prog 42 #[.slice none 0 0, nodeV n A c] W fun e w' => ∃ v, e = .returned v ∧ Kd.R k58 58 w' W.heap.size (fun _ => True) v l ∧ Below W.heap.size W w')) :
  Calls Tryz.prog 18 #[nodeV n A c] w (RectsOut l 0 w) := by
 have HB := Aside0.mk (bel1 w (.cells (nodeA n A c) 44))
 have B1 := Aside0.mk (newBlk w (.cells (nodeA n A c) 44))
 go_enter Tryz.func18, Tryz.ntmps18
 go_wp2_with (first
  | ((with_reducible refine gate_dst (N := 5) rfl ?_); refine wpPartLd 5 rfl rfl 44 (.tmp 1) rfl _ rfl _ (nodeA n A c) [] B1.out rfl Tryz.underlying44 rfl (by kernel_rfl) ?_)
  | (go_at_call 37; (with_reducible refine (HCk.out.mono ?_)); rintro e w1 ⟨rfl, hb⟩; have HB1 := Aside0.mk (below_step HB.out hb); have C1 := Aside0.mk (blk_below B1.out hb); clear hb)
  | ((with_reducible refine gate_dst (N := 10) rfl ?_); refine wpPartLd 10 rfl rfl 44 (.tmp 1) rfl _ rfl _ (nodeA n A c) [] C1.out rfl Tryz.underlying44 rfl (by kernel_rfl) ?_)
  | (go_at_call 42; (with_reducible refine (HNm.out _ HB1.out).mono ?_); rintro e w2 ⟨v, rfl, hR, hb⟩; obtain ⟨A2, c2, rfl, hle, hC⟩ := Kd.R_reads hR; have HB2 := Aside0.mk (below_step HB1.out hb); have HC2 := Aside0.mk hC; clear hb hR hC))
 go_ret2
 exact ⟨A2, c2, rfl, hle, HC2.out, HB2.out⟩
theorem refRects_calls (n : Nd) (A : Option Addr) (c : Nat) (w : World) (hK : KidsC w A c n.f5) : Calls Tryz.prog 18 #[nodeV n A c] w (RectsOut (rectsL n) (checkI n) w) := by
 have hk := Check_calls n A c (w.alloc (.cells (nodeA n A c) 44)) (hK.below (bel1 w _))
 unfold rectsL
 by_cases h : checkI n = 0
 ·rw [if_pos h]
  rw [h] at hk ⊢
  refine refrects_go n A c _ w ⟨hk⟩ ⟨fun W hW => ?_⟩
  refine (named_calls W (szN n + 1) n A c (fun _ => True) (.slice none 0 0) [] W (Nat.lt_succ_self _) (hK.below hW) (Below.refl _ _) (Kd.R_nil _ _ _ _ _) (by have := pre_few h; simp; omega)).mono ?_
  rintro e w' ⟨v, rfl, hR, hb, _⟩
  exact ⟨v, rfl, Kd.R_mono hR (fun _ _ => trivial), hb⟩
 ·rw [if_neg h]
  refine (refrects_bad n A c _ h w ⟨hk⟩).mono ?_
  rintro e w' ⟨rfl, hb⟩
  exact ⟨none, 0, rfl, Nat.le_refl _, Kd.C_nil _ _, hb⟩
end Go.Proofs.YtopdjokncbpghaaGreatDoor.Pr
end
