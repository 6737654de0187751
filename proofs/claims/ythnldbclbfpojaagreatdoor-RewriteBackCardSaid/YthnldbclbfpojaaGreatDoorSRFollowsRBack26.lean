/-
  Lemmas for the law RFollowsRBack.
-/
import Derived.Test.YthnldbclbfpojaaGreatDoorSRFollowsRBack16
import Derived.Test.YthnldbclbfpojaaGreatDoorSRFollowsRBack11
import Derived.Test.YthnldbclbfpojaaGreatDoorSRFollowsRBack5
import Derived.Deep.RegionHeld3
set_option maxHeartbeats 8000000
set_option maxRecDepth 100000
set_option linter.unusedVariables false
set_option linter.unusedSimpArgs false
section
namespace Go.Proofs.YthnldbclbfpojaaGreatDoor.Pr
open Go.RowKit Go.Proofs.YthnldbclbfpojaaGreatDoorW.PrintWords Go.Proofs.YthnldbclbfpojaaGreatDoorW.PrintLast Go.Proofs.YthnldbclbfpojaaGreatDoorW.PrintMore
def CellsAt (w : World) (p : Addr) (cs : Array Value) : Prop := ∀ (j : Nat) (v : Value), cs.toList[j]? = some v → w.cell? (p.add j) = some v
theorem CellsAt.below {w w1 : World} {p : Addr} {cs : Array Value} (h : CellsAt w p cs) (hb : Below w.heap.size w w1) : CellsAt w1 p cs := fun j v hv => (hb.cell (World.block_lt_of_cell? _ _ (h j v hv))).trans (h j v hv)
theorem rowLdAt {P : Program} {w : World} {p : Addr} {ty : TypeId} {cs : Array Value} {d : TypeDesc} (hC : CellsAt w p cs)
  (hu : P.underlying ty = some d) (hd : (match d with | .struct _ | .array _ _ => true | _ => false) = true) (hi : (P.info? ty).map (·.size) = some cs.size) : (Instr.loadAt ty (.pointer (some p))).run P w = .ok (.agg cs) w := by
 have hl : (loadCells p cs.toList.length).run P w = .ok cs.toList.toArray w :=
  run_loadCells_list (P := P) w p cs.toList (fun j v hv => hC j v hv)
 have hv : (loadVar ty p).run P w = .ok (.agg cs) w := by
  cases hq : P.info? ty with
  | none => simp [hq] at hi
  | some i =>
   have hs : i.size = cs.size := by simpa [hq] using hi
   have hagg : (isAgg ty).run P w = .ok true w := by
    unfold isAgg
    rw [Sem.run_bind, run_underlying hu w]
    cases d <;> simp_all
   simp only [Array.length_toList, Array.toArray_toList] at hl
   simp [loadVar, Sem.run_bind, hagg, sizeOf, typeInfo, hq, hs, hl]
 simp only [Instr.loadAt, Instr.sureAddr, Sem.run_bind, Sem.run_pure, Result.andThen_ok, hv]
theorem rowRunAt {P : Program} {w : World} {p : Addr} {ty : TypeId} {cs : Array Value} {d : TypeDesc} {a : Act} {oi : Oper} {x : Operand} (ho : oi.op = .load ty x) (hx : a.eval x = .pointer (some p)) (hC : CellsAt w p cs)
  (hu : P.underlying ty = some d) (hd : (match d with | .struct _ | .array _ _ => true | _ => false) = true) (hi : (P.info? ty).map (·.size) = some cs.size) : (execOp a.eval oi).run P w = .ok (.value (.agg cs)) w := by
 unfold execOp
 rw [ho]
 simp only [hx, Sem.run_bind, rowLdAt hC hu hd hi, Result.andThen_ok, Sem.run_pure]
theorem wpLdAt {P : Program} {ops : Array Oper} {rest : List Oper} {o : Oper} {a : Act} {w : World} {Q : Exit → Act → World → Prop} (N : Tmp) (hN : o.dst = some N) (hgd : o.guard = none) (ty : TypeId) (x : Operand) (ho : o.op = .load ty x)
  (p : Addr) (hx : a.eval x = .pointer (some p)) (d : TypeDesc) (cs : Array Value) (hC : CellsAt w p cs)
  (hu : P.underlying ty = some d) (hd : (match d with | .struct _ | .array _ _ => true | _ => false) = true) (hi : (P.info? ty).map (·.size) = some cs.size)
  (h : wpList P ops Q rest (a.put (some N) (.agg cs)) w) : wpList P ops Q (o :: rest) a w := by
 refine wpList_plain hgd fun _ hK => ?_
 unfold Oper.wp execOp
 simp only [ho, hx, Sem.run_bind, rowLdAt hC hu hd hi, Result.andThen_ok]
 exact hK _ _ (by rw [hN]; exact h)
theorem sixteen {w : World} {p : Addr} {v0 v1 v2 v3 v4 v5 v6 v7 v8 v9 v10 v11 v12 v13 v14 v15 : Value} (g0 : w.cell? p = some v0) (g1 : w.cell? ⟨p.block, p.off + 1, none⟩ = some v1) (g2 : w.cell? ⟨p.block, p.off + 2, none⟩ = some v2) (g3 : w.cell? ⟨p.block, p.off + 3, none⟩ = some v3) (g4 : w.cell? ⟨p.block, p.off + 4, none⟩ = some v4) (g5 : w.cell? ⟨p.block, p.off + 5, none⟩ = some v5) (g6 : w.cell? ⟨p.block, p.off + 6, none⟩ = some v6) (g7 : w.cell? ⟨p.block, p.off + 7, none⟩ = some v7) (g8 : w.cell? ⟨p.block, p.off + 8, none⟩ = some v8) (g9 : w.cell? ⟨p.block, p.off + 9, none⟩ = some v9) (g10 : w.cell? ⟨p.block, p.off + 10, none⟩ = some v10) (g11 : w.cell? ⟨p.block, p.off + 11, none⟩ = some v11) (g12 : w.cell? ⟨p.block, p.off + 12, none⟩ = some v12) (g13 : w.cell? ⟨p.block, p.off + 13, none⟩ = some v13) (g14 : w.cell? ⟨p.block, p.off + 14, none⟩ = some v14) (g15 : w.cell? ⟨p.block, p.off + 15, none⟩ = some v15) :
  CellsAt w p #[v0, v1, v2, v3, v4, v5, v6, v7, v8, v9, v10, v11, v12, v13, v14, v15] := by
 intro j v hv
 match j, hv with
 | 0, hv => cases hv; exact g0
 | 1, hv => cases hv; exact g1
 | 2, hv => cases hv; exact g2
 | 3, hv => cases hv; exact g3
 | 4, hv => cases hv; exact g4
 | 5, hv => cases hv; exact g5
 | 6, hv => cases hv; exact g6
 | 7, hv => cases hv; exact g7
 | 8, hv => cases hv; exact g8
 | 9, hv => cases hv; exact g9
 | 10, hv => cases hv; exact g10
 | 11, hv => cases hv; exact g11
 | 12, hv => cases hv; exact g12
 | 13, hv => cases hv; exact g13
 | 14, hv => cases hv; exact g14
 | 15, hv => cases hv; exact g15
 | j + 16, hv => cases hv
theorem kid_at {w : World} {A : Option Addr} {l : List Nd} (h : Kd.C k33 w A l.length l) (k : Nat) (hk : k < l.length) : ∃ (ad : Addr) (A' : Option Addr) (c' : Nat), A = some ad ∧ KidsC w A' c' (l[k]).f5 ∧ CellsAt w (ad.add (k * 16)) (nodeA l[k] A' c') := by
 obtain ⟨ad, A', c', e, hK, g0, g1, g2, g3, g4, g5, g6, g7, g8, g9, g10, g11, g12, g13, g14, g15⟩ := at_kid h k hk
 exact ⟨ad, A', c', e, hK, sixteen g0 g1 g2 g3 g4 g5 g6 g7 g8 g9 g10 g11 g12 g13 g14 g15⟩
theorem rowNew {W : World} {g : Nat} {o : Obj} (h : W.heap[g]? = some o) (p : Obj) (cs : Array Value) : ((W.alloc p).setRow W.heap.size cs).heap[g]? = some o := by
 have hlt := blk_lt h
 exact rowOther _ (blk_alloc h _) (by omega)
theorem storeCells_mid {P : Program} (g o : Nat) (t : TypeId) : ∀ (vs : List Value) (i : Nat) (cur : Array Value) (w : World), w.heap[g]? = some (.cells cur t (0, 0)) → o + i + vs.length ≤ cur.size → (∀ v ∈ vs, v.oneCell' = true) →
  (storeCells ⟨g, o, none⟩ vs i).run P w = .ok () (w.setRow g (cur.toList.take (o + i) ++ vs ++ cur.toList.drop (o + i + vs.length)).toArray)
 | [], i, cur, w, hg, hl, _ => by
  simp only [storeCells, List.append_nil, List.length_nil, Nat.add_zero, List.take_append_drop, Array.toArray_toList, setRow_self hg]
  rfl
 | v :: rest, i, cur, w, hg, hl, h1 => by
  have hi : o + i < cur.size := by simp at hl; omega
  have hadd : (⟨g, o, none⟩ : Addr).add i = ⟨g, o + i, none⟩ := by unfold Addr.add; split <;> simp_all
  have hcell : w.cell? ⟨g, o + i, none⟩ = some cur[o + i] := by simp [World.cell?, hg, hi]
  have hfro : w.frozen? ⟨g, o + i, none⟩ = false := by simp [World.frozen?, hg]
  have hst : (store ((⟨g, o, none⟩ : Addr).add i) v).run P w = .ok () (w.setRow g (cur.setIfInBounds (o + i) v)) := by
   rw [hadd, run_store P w _ v _ (h1 v (by simp)), hcell]
   simp [hfro, setCell_eq_setRow w g (o + i) cur t (0, 0) v hg]
  have ih := storeCells_mid (P := P) g o t rest (i + 1) (cur.setIfInBounds (o + i) v) (w.setRow g (cur.setIfInBounds (o + i) v)) (setRow_heap w g cur _ t _ hg) (by simp at hl ⊢; omega) (fun x hx => h1 x (by simp [hx]))
  simp only [storeCells, Sem.run_bind, hst, Result.andThen_ok, ih, setRow_setRow]
  congr 3
  have hsz : cur.toList.length = cur.size := Array.length_toList
  rw [Array.toList_setIfInBounds, List.set_eq_take_append_cons_drop, if_pos (by omega)]
  have hlen : (cur.toList.take (o + i)).length = o + i := by rw [List.length_take]; omega
  have e1 : (cur.toList.take (o + i) ++ v :: cur.toList.drop (o + i + 1)).take (o + (i + 1)) = cur.toList.take (o + i) ++ [v] := by
   rw [List.take_append, hlen, List.take_of_length_le (by omega), show o + (i + 1) - (o + i) = 1 by omega]
   simp
  have e2 : (cur.toList.take (o + i) ++ v :: cur.toList.drop (o + i + 1)).drop (o + (i + 1) + rest.length) = cur.toList.drop (o + i + (v :: rest).length) := by
   rw [List.drop_append, hlen, List.drop_of_length_le (by omega), List.nil_append, show o + (i + 1) + rest.length - (o + i) = rest.length + 1 by omega, List.drop_succ_cons, List.drop_drop]
   congr 1
   simp only [List.length_cons]
   omega
  rw [e1, e2]
  simp
theorem midSt {P : Program} {W : World} {g o : Nat} {t ty : TypeId} {old new : Array Value} {v : Value} {vs : List Value} (hv : v.cells = vs.toArray) (hg : W.heap[g]? = some (.cells old t (0, 0))) (hi : (P.info? ty).map (·.size) = some vs.length) (ho : o + vs.length ≤ old.size) (h1 : vs.all (·.oneCell') = true) (hn : (old.toList.take o ++ vs ++ old.toList.drop (o + vs.length)).toArray = new) :
  (Instr.storeAt ty (.pointer (some ⟨g, o, none⟩)) v).run P W = .ok () (W.setRow g new) := by
 have hp := storeCells_mid (P := P) g o t vs 0 old W hg (by simpa using ho) (fun v hv => List.all_eq_true.mp h1 v hv)
 have hs : (storeVar ty ⟨g, o, none⟩ v).run P W = .ok () (W.setRow g new) := by
  cases hq : P.info? ty with
  | none => simp [hq] at hi
  | some i =>
   have hsz : vs.length = i.size := by simp [hq] at hi; omega
   simp only [Nat.add_zero] at hp
   rw [hn] at hp
   simp [storeVar, sizeOf, typeInfo, hq, hv, hsz, hp]
 simp only [Instr.storeAt, Instr.sureAddr, Sem.run_bind, Sem.run_pure, Result.andThen_ok, hs]
theorem wpMidSt {P : Program} {ops : Array Oper} {rest : List Oper} {o : Oper} {a : Act} {w : World} {Q : Exit → Act → World → Prop} (hgd : o.guard = none) (ty : TypeId) (x y : Operand) (ho : o.op = .store ty x y)
  (g off : Nat) (v : Value) (vs : List Value) (hx : a.eval x = .pointer (some ⟨g, off, none⟩)) (hy : a.eval y = v) (hv : v.cells = vs.toArray)
  (t : TypeId) (old new : Array Value) (hg : w.heap[g]? = some (.cells old t (0, 0))) (hi : (P.info? ty).map (·.size) = some vs.length)
  (hold : (decide (off + vs.length ≤ old.size)) = true) (h1 : vs.all (·.oneCell') = true) (hn : (old.toList.take off ++ vs ++ old.toList.drop (off + vs.length)).toArray = new)
  (h : wpList P ops Q rest (a.put o.dst undef) (w.setRow g new)) : wpList P ops Q (o :: rest) a w := by
 refine wpList_plain hgd fun _ hK => ?_
 unfold Oper.wp execOp
 simp only [ho, hx, hy, Sem.run_bind, midSt hv hg hi (of_decide_eq_true hold) h1 hn, Result.andThen_ok]
 exact hK _ _ h
theorem size_calls (d : Nat) : ∀ (n : Nd) (A : Option Addr) (c : Nat) (m : Int) (w : World) (hd : szN n < d) (hK : KidsC w A c n.f5) (h0 : 0 ≤ m) (h1 : m ≤ 1000000),
  Calls Tryz.prog 85 #[nodeV n A c, .int .i64 m] w fun e w' => e = .returned (.int .i64 (nodesS n m)) ∧ Below w.heap.size w w' := by
 induction d with
 | zero => intro n A c m w hd; omega
 | succ d ih =>
  intro n A c m w hd hK h0 h1
  obtain ⟨hlc, hC⟩ := hK
  have hmax := hC.2.1
  have HC := Aside0.mk hC
  clear hC
  have HI := Aside0.mk ih
  clear ih
  have HD := Aside0.mk hd
  clear hd
  have HR := Aside0.mk (nodesS_eq n m)
  generalize nodesS n m = r at HR ⊢
  go_enter Tryz.func85, Tryz.ntmps85
  go_wp2
  go_loopw [5, 11] (fun all i wr => ∃ (k : Nat) (x : Int), k ≤ n.f5.length ∧ i = .int .i64 k ∧ all = .int .i64 x ∧ 1 ≤ x ∧ x ≤ m + 1 ∧ Aside0 (r = nodesL (n.f5.drop k) m x) ∧ Aside0 (Below w.heap.size w wr)) (fun _ i _ => n.f5.length - (intOf i).toNat)
  case atStart => exact ⟨0, 1, by omega, rfl, rfl, by omega, by omega, HR, ⟨bel1 w _⟩⟩
  case round =>
   obtain ⟨k, x, hk, rfl, rfl, hx1, hx2, HX, HB⟩ := hrel
   by_cases hkl : k < n.f5.length
   ·obtain ⟨ad, A', c', e, hK', g0, g1, g2, g3, g4, g5, g6, g7, g8, g9, g10, g11, g12, g13, g14, g15⟩ := at_kid (Kd.C_below HC.out HB.out) k hkl
    subst e
    have HK' := Aside0.mk hK'
    clear hK'
    by_cases hxm : x ≤ m
    ·have HN := Aside0.mk (show nodesL (n.f5.drop k) m x = nodesL (n.f5.drop (k + 1)) m (x + nodesS n.f5[k] (m - x)) by rw [List.drop_eq_getElem_cons hkl, nodesL, if_pos hxm])
     have hbd := nodesS_bd n.f5[k] (m - x) (by omega)
     have HM := Aside0.mk (List.getElem_mem hkl)
     go_wp2_with (go_at_call 85; (with_reducible refine (HI.out n.f5[k] A' c' (m - x) _ (by have := kid_lt HM.out; have := HD.out; omega) (HK'.out.below (bel1 wr _)) (by omega) (by omega)).mono ?_); rintro e w1 ⟨rfl, hb⟩; have HB1 := Aside0.mk hb; clear hb)
     refine ⟨⟨k + 1, x + nodesS n.f5[k] (m - x), by omega, by go_num, rfl, by omega, by omega, ⟨HX.out.trans HN.out⟩, ⟨below_step (below_alloc HB.out _) HB1.out⟩⟩, ?_⟩
     simp [intOf]; omega
    ·have HN := Aside0.mk (show nodesL (n.f5.drop k) m x = x by rw [List.drop_eq_getElem_cons hkl, nodesL, if_neg hxm])
     obtain rfl : x = m + 1 := by omega
     clear hxm
     go_wp2
     go_ret
     exact ⟨ret_i (HX.out.trans HN.out).symm, below_alloc HB.out _⟩
   ·have HN := Aside0.mk (show nodesL (n.f5.drop k) m x = x by rw [List.drop_of_length_le (by omega), nodesL])
    go_wp2
    go_ret
    exact ⟨ret_i (HX.out.trans HN.out).symm, HB.out⟩
theorem levelsL_stop : ∀ (l : List Nd) (m u : Int), ¬ u < m → levelsL l m u = u
 | [], _, _, _ => by rw [levelsL]
 | _ :: _, _, _, h => by rw [levelsL, if_neg h]
theorem height_calls (d : Nat) : ∀ (n : Nd) (A : Option Addr) (c : Nat) (m : Int) (w : World) (hd : szN n < d) (hK : KidsC w A c n.f5) (h0 : 0 ≤ m) (h1 : m ≤ 1000000),
  Calls Tryz.prog 86 #[nodeV n A c, .int .i64 m] w fun e w' => e = .returned (.int .i64 (levelsS n m)) ∧ Below w.heap.size w w' := by
 induction d with
 | zero => intro n A c m w hd; omega
 | succ d ih =>
  intro n A c m w hd hK h0 h1
  obtain ⟨hlc, hC⟩ := hK
  have hmax := hC.2.1
  have HC := Aside0.mk hC
  clear hC
  have HI := Aside0.mk ih
  clear ih
  have HD := Aside0.mk hd
  clear hd
  by_cases hm : m ≤ 0
  ·have HR := Aside0.mk (show levelsS n m = 1 by rw [levelsS_eq, if_pos hm])
   have hmd : m < 1 := by omega
   clear hm
   generalize levelsS n m = r at HR ⊢
   go_enter Tryz.func86, Tryz.ntmps86
   go_wp2
   go_ret
   exact ⟨ret_i HR.out.symm, bel1 w _⟩
  have HR := Aside0.mk (show levelsS n m = 1 + levelsL n.f5 m 0 by rw [levelsS_eq, if_neg hm])
  have hmd : 1 ≤ m := by omega
  clear hm
  generalize levelsS n m = r at HR ⊢
  go_enter Tryz.func86, Tryz.ntmps86
  go_wp2
  go_loopw [5, 13] (fun u i wr => ∃ (k : Nat) (x : Int), k ≤ n.f5.length ∧ i = .int .i64 k ∧ u = .int .i64 x ∧ 0 ≤ x ∧ x < m ∧ Aside0 (r = 1 + levelsL (n.f5.drop k) m x) ∧ Aside0 (Below w.heap.size w wr)) (fun _ i _ => n.f5.length - (intOf i).toNat)
  case atStart => exact ⟨0, 0, by omega, rfl, rfl, by omega, by omega, HR, ⟨bel1 w _⟩⟩
  case round =>
   obtain ⟨k, x, hk, rfl, rfl, hx1, hx2, HX, HB⟩ := hrel
   by_cases hkl : k < n.f5.length
   ·obtain ⟨ad, A', c', e, hK', g0, g1, g2, g3, g4, g5, g6, g7, g8, g9, g10, g11, g12, g13, g14, g15⟩ := at_kid (Kd.C_below HC.out HB.out) k hkl
    subst e
    have HK' := Aside0.mk hK'
    clear hK'
    have HN := Aside0.mk (show levelsL (n.f5.drop k) m x = levelsL (n.f5.drop (k + 1)) m (if x < levelsS n.f5[k] (m - 1) then levelsS n.f5[k] (m - 1) else x) by rw [List.drop_eq_getElem_cons hkl, levelsL, if_pos hx2])
    have hbd := levelsS_bd n.f5[k] (m - 1) (by omega)
    have HM := Aside0.mk (List.getElem_mem hkl)
    generalize hq : levelsS n.f5[k] (m - 1) = q at HN hbd
    have HQ := Aside0.mk hq
    clear hq
    by_cases hxq : x < q
    ·have HN2 := Aside0.mk (show levelsL (n.f5.drop k) m x = levelsL (n.f5.drop (k + 1)) m q by rw [HN.out, if_pos hxq])
     clear HN
     by_cases hqm : q < m
     all_goals
      go_wp2_with (go_at_call 86; (with_reducible refine (HI.out n.f5[k] A' c' (m - 1) _ (by have := kid_lt HM.out; have := HD.out; omega) (HK'.out.below (bel1 wr _)) (by omega) (by omega)).mono ?_); rintro e w1 ⟨e1, hb⟩; rw [HQ.out] at e1; subst e1; have HB1 := Aside0.mk hb; clear hb)
     ·refine ⟨⟨k + 1, q, by omega, by go_num, by simp [hxq], by omega, by omega, ⟨by rw [HX.out, HN2.out]⟩, ⟨below_step (below_alloc HB.out _) HB1.out⟩⟩, ?_⟩
      simp [intOf]; omega
     ·go_ret
      exact ⟨ret_i (by rw [HX.out, HN2.out, levelsL_stop _ _ _ (by omega)]; omega), below_step (below_alloc HB.out _) HB1.out⟩
    ·have HN2 := Aside0.mk (show levelsL (n.f5.drop k) m x = levelsL (n.f5.drop (k + 1)) m x by rw [HN.out, if_neg hxq])
     clear HN
     go_wp2_with (go_at_call 86; (with_reducible refine (HI.out n.f5[k] A' c' (m - 1) _ (by have := kid_lt HM.out; have := HD.out; omega) (HK'.out.below (bel1 wr _)) (by omega) (by omega)).mono ?_); rintro e w1 ⟨e1, hb⟩; rw [HQ.out] at e1; subst e1; have HB1 := Aside0.mk hb; clear hb)
     refine ⟨⟨k + 1, x, by omega, by go_num, by simp [hxq], by omega, by omega, ⟨by rw [HX.out, HN2.out]⟩, ⟨below_step (below_alloc HB.out _) HB1.out⟩⟩, ?_⟩
     simp [intOf]; omega
   ·have HN := Aside0.mk (show levelsL (n.f5.drop k) m x = x by rw [List.drop_of_length_le (by omega), levelsL])
    go_wp2
    go_ret
    exact ⟨ret_i (by rw [HX.out, HN.out]; omega), HB.out⟩
theorem measure_calls (n : Nd) (A : Option Addr) (c : Nat) (m d : Int) (w : World) (hK : KidsC w A c n.f5) (h0 : 0 ≤ m) (h1 : m ≤ 1000000) (d0 : 0 ≤ d) (d1 : d ≤ 1000000) :
  Calls Tryz.prog 53 #[nodeV n A c, .int .i64 m, .int .i64 d] w fun e w' => e = .returned (.tuple #[.int .i64 (nodesS n m), .int .i64 (levelsS n d)]) ∧ Below w.heap.size w w' := by
 have HK := Aside0.mk hK
 clear hK
 have cN := Aside0.mk fun (W : World) (h : Below w.heap.size w W) => size_calls (szN n + 1) n A c m W (Nat.lt_succ_self _) (HK.out.below h) h0 h1
 have cL := Aside0.mk fun (W : World) (h : Below w.heap.size w W) => height_calls (szN n + 1) n A c d W (Nat.lt_succ_self _) (HK.out.below h) d0 d1
 go_enter Tryz.func53, Tryz.ntmps53
 go_wp2
 have HB0 := Aside0.mk (below_alloc (Below.refl w.heap.size w) (.cells (nodeA n A c) 33))
 have HBk := Aside0.mk (newBlk w (.cells (nodeA n A c) 33))
 generalize w.alloc (.cells (nodeA n A c) 33) = w0 at HB0 HBk ⊢
 have HBd := Aside0.mk (blk_drew HBk.out)
 have HB0d := Aside0.mk (below_drew1 HB0.out)
 go_region_held3 (fun w' => w'.cell? ⟨w.heap.size, 0, none⟩ = some (.int .i64 n.f0) ∧ w'.cell? ⟨w.heap.size, 1, none⟩ = some (.int .i64 n.f1.f0) ∧ w'.cell? ⟨w.heap.size, 2, none⟩ = some (.int .i64 n.f1.f1) ∧ w'.cell? ⟨w.heap.size, 3, none⟩ = some (.string n.f1.f2) ∧ w'.cell? ⟨w.heap.size, 4, none⟩ = some (.bool n.f1.f3) ∧ w'.cell? ⟨w.heap.size, 5, none⟩ = some (.int .i64 n.f1.f4) ∧ w'.cell? ⟨w.heap.size, 6, none⟩ = some (.int .i64 n.f2.f0.f0) ∧ w'.cell? ⟨w.heap.size, 7, none⟩ = some (.int .i64 n.f2.f0.f1) ∧ w'.cell? ⟨w.heap.size, 8, none⟩ = some (.bool n.f2.f1) ∧ w'.cell? ⟨w.heap.size, 9, none⟩ = some (.bool n.f2.f2) ∧ w'.cell? ⟨w.heap.size, 10, none⟩ = some (.int .i64 n.f3.f0.f0) ∧ w'.cell? ⟨w.heap.size, 11, none⟩ = some (.int .i64 n.f3.f0.f1) ∧ w'.cell? ⟨w.heap.size, 12, none⟩ = some (.bool n.f3.f1) ∧ w'.cell? ⟨w.heap.size, 13, none⟩ = some (.bool n.f3.f2) ∧ w'.cell? ⟨w.heap.size, 14, none⟩ = some (.string n.f4) ∧ w'.cell? ⟨w.heap.size, 15, none⟩ = some (.slice A n.f5.length c)) (first | exact ⟨(blk_cell HBk.out 0).trans rfl, (blk_cell HBk.out 1).trans rfl, (blk_cell HBk.out 2).trans rfl, (blk_cell HBk.out 3).trans rfl, (blk_cell HBk.out 4).trans rfl, (blk_cell HBk.out 5).trans rfl, (blk_cell HBk.out 6).trans rfl, (blk_cell HBk.out 7).trans rfl, (blk_cell HBk.out 8).trans rfl, (blk_cell HBk.out 9).trans rfl, (blk_cell HBk.out 10).trans rfl, (blk_cell HBk.out 11).trans rfl, (blk_cell HBk.out 12).trans rfl, (blk_cell HBk.out 13).trans rfl, (blk_cell HBk.out 14).trans rfl, (blk_cell HBk.out 15).trans rfl⟩ | exact ⟨(blk_cell (blk_below HBd.out HB1.out) 0).trans rfl, (blk_cell (blk_below HBd.out HB1.out) 1).trans rfl, (blk_cell (blk_below HBd.out HB1.out) 2).trans rfl, (blk_cell (blk_below HBd.out HB1.out) 3).trans rfl, (blk_cell (blk_below HBd.out HB1.out) 4).trans rfl, (blk_cell (blk_below HBd.out HB1.out) 5).trans rfl, (blk_cell (blk_below HBd.out HB1.out) 6).trans rfl, (blk_cell (blk_below HBd.out HB1.out) 7).trans rfl, (blk_cell (blk_below HBd.out HB1.out) 8).trans rfl, (blk_cell (blk_below HBd.out HB1.out) 9).trans rfl, (blk_cell (blk_below HBd.out HB1.out) 10).trans rfl, (blk_cell (blk_below HBd.out HB1.out) 11).trans rfl, (blk_cell (blk_below HBd.out HB1.out) 12).trans rfl, (blk_cell (blk_below HBd.out HB1.out) 13).trans rfl, (blk_cell (blk_below HBd.out HB1.out) 14).trans rfl, (blk_cell (blk_below HBd.out HB1.out) 15).trans rfl⟩ | exact ⟨(blk_cell (blk_below (blk_below HBd.out HB1.out) HB2.out) 0).trans rfl, (blk_cell (blk_below (blk_below HBd.out HB1.out) HB2.out) 1).trans rfl, (blk_cell (blk_below (blk_below HBd.out HB1.out) HB2.out) 2).trans rfl, (blk_cell (blk_below (blk_below HBd.out HB1.out) HB2.out) 3).trans rfl, (blk_cell (blk_below (blk_below HBd.out HB1.out) HB2.out) 4).trans rfl, (blk_cell (blk_below (blk_below HBd.out HB1.out) HB2.out) 5).trans rfl, (blk_cell (blk_below (blk_below HBd.out HB1.out) HB2.out) 6).trans rfl, (blk_cell (blk_below (blk_below HBd.out HB1.out) HB2.out) 7).trans rfl, (blk_cell (blk_below (blk_below HBd.out HB1.out) HB2.out) 8).trans rfl, (blk_cell (blk_below (blk_below HBd.out HB1.out) HB2.out) 9).trans rfl, (blk_cell (blk_below (blk_below HBd.out HB1.out) HB2.out) 10).trans rfl, (blk_cell (blk_below (blk_below HBd.out HB1.out) HB2.out) 11).trans rfl, (blk_cell (blk_below (blk_below HBd.out HB1.out) HB2.out) 12).trans rfl, (blk_cell (blk_below (blk_below HBd.out HB1.out) HB2.out) 13).trans rfl, (blk_cell (blk_below (blk_below HBd.out HB1.out) HB2.out) 14).trans rfl, (blk_cell (blk_below (blk_below HBd.out HB1.out) HB2.out) 15).trans rfl⟩)
  (first
  | (go_at_call 85; refine (cN.out _ (below_drew1 HB0.out)).mono ?_; rintro e w1 ⟨rfl, hb1⟩; have HB1 := Aside0.mk hb1; clear hb1)
  | (go_at_call 86; refine (cL.out _ (below_step HB0d.out HB1.out)).mono ?_; rintro e w2 ⟨rfl, hb2⟩; have HB2 := Aside0.mk hb2; clear hb2))
 go_wp2
 go_ret2
 exact ⟨rfl, below_step (below_step HB0d.out HB1.out) HB2.out⟩
end Go.Proofs.YthnldbclbfpojaaGreatDoor.Pr
end
section
namespace Go.Proofs.YthnldbclbfpojaaGreatDoor.Pr
open Go.RowKit Go.Proofs.YthnldbclbfpojaaGreatDoorW.PrintWords Go.Proofs.YthnldbclbfpojaaGreatDoorW.PrintLast Go.Proofs.YthnldbclbfpojaaGreatDoorW.PrintMore
attribute [local go_sem high] eqA26 eqA30
def headB (a b : Nd) : Bool :=
 (a.f0 == b.f0) && ((a.f1.f0 == b.f1.f0 && (a.f1.f1 == b.f1.f1 && (a.f1.f2.toList == b.f1.f2.toList && (a.f1.f3 == b.f1.f3 && (a.f1.f4 == b.f1.f4))))) &&
 (((a.f2.f0.f0 == b.f2.f0.f0 && (a.f2.f0.f1 == b.f2.f0.f1)) && (a.f2.f1 == b.f2.f1 && (a.f2.f2 == b.f2.f2))) &&
 (((a.f3.f0.f0 == b.f3.f0.f0 && (a.f3.f0.f1 == b.f3.f0.f1)) && (a.f3.f1 == b.f3.f1 && (a.f3.f2 == b.f3.f2))) &&
 ((a.f4.toList == b.f4.toList) && (a.f5.length == b.f5.length)))))
mutual
def sameS : Nd → Nd → Bool
 | ⟨p, q, s, t, u, l⟩, b => headB ⟨p, q, s, t, u, l⟩ b && sameL l b.f5
def sameL : List Nd → List Nd → Bool
 | [], _ => true
 | _ :: _, [] => false
 | x :: r, y :: s => sameS x y && sameL r s
end
theorem sameS_eq (a b : Nd) : sameS a b = (headB a b && sameL a.f5 b.f5) := by cases a; rw [sameS]
theorem Same_calls (d : Nat) : ∀ (a b : Nd) (A B : Option Addr) (c e : Nat) (w : World) (hd : szN a < d) (hKa : KidsC w A c a.f5) (hKb : KidsC w B e b.f5),
  Calls Tryz.prog 14 #[nodeV a A c, nodeV b B e] w fun e w' => e = .returned (.bool (sameS a b)) ∧ Below w.heap.size w w' := by
 induction d with
 | zero => intro a b A B c e w hd; omega
 | succ d ih =>
 intro a b A B c e w hd hKa hKb
 obtain ⟨hla, hCa⟩ := hKa
 obtain ⟨hlb, hCb⟩ := hKb
 have hma := hCa.2.1
 have hmb := hCb.2.1
 have HCa := Aside0.mk hCa
 have HCb := Aside0.mk hCb
 have HI := Aside0.mk ih
 have HD := Aside0.mk hd
 have HK := Aside0.mk (fun x hx => @kid_lt a x hx)
 clear ih hd hCa hCb
 have HR := Aside0.mk (sameS_eq a b)
 generalize sameS a b = r at HR ⊢
 obtain ⟨f0, ⟨v0, v1, v2, v3, v4⟩, ⟨⟨c0, c1⟩, c2, c3⟩, ⟨⟨t0, t1⟩, t2, t3⟩, s, l⟩ := a
 obtain ⟨g0, ⟨x0, x1, x2, x3, x4⟩, ⟨⟨d0, d1⟩, d2, d3⟩, ⟨⟨y0, y1⟩, y2, y3⟩, z, m⟩ := b
 unfold nodeV nodeA
 simp only at hla hlb hma hmb HCa HCb HK ⊢
 by_cases hV : (v0 = x0 ∧ v1 = x1 ∧ v2.toList = x2.toList ∧ v3 = x3 ∧ v4 = x4)
 ·obtain ⟨rfl, rfl, hv2, rfl, rfl⟩ := hV
  have hv2b : (v2.toList == x2.toList) = true := by simp [hv2]
  by_cases hC : ((c0 = d0 ∧ c1 = d1) ∧ c2 = d2 ∧ c3 = d3)
  ·obtain ⟨⟨rfl, rfl⟩, rfl, rfl⟩ := hC
   by_cases hT : ((t0 = y0 ∧ t1 = y1) ∧ t2 = y2 ∧ t3 = y3)
   ·obtain ⟨⟨rfl, rfl⟩, rfl, rfl⟩ := hT
    go_enter Tryz.func14, Tryz.ntmps14
    go_wp2
    all_goals (first | (go_ret; exact ⟨ret_b (by rw [HR.out]; clear HR HI HD HK HCa HCb; simp_all [headB]; try (intro hh; exfalso; omega)), by repeat (first | exact Below.refl _ _ | apply below_alloc)⟩) | skip)
    rename_i q0 q1 q2 _ _
    have hlm : l.length = m.length := by
     have h3 : ((l.length : Int) != (m.length : Int)) = false := by assumption
     have := (bne_eq_false_iff_eq).mp h3
     omega
    have HS := Aside0.mk (show r = sameL l m by rw [HR.out]; clear HR HI HD HK HCa HCb; simp_all [headB])
    clear HR
    have HLM := Aside0.mk hlm
    clear hlm
    go_loopw [5] (fun i wr => ∃ (k : Nat), k ≤ l.length ∧ i = .int .i64 k ∧ Aside0 (r = sameL (l.drop k) (m.drop k)) ∧ Aside0 (Below w.heap.size w wr) ∧ Aside0 (wr.cell? ⟨w.heap.size, 15, none⟩ = some (.slice A l.length c)) ∧ Aside0 (wr.cell? ⟨w.heap.size + 1, 15, none⟩ = some (.slice B m.length e))) (fun i _ => l.length - (intOf i).toNat)
    case atStart => exact ⟨0, by omega, rfl, HS, ⟨by repeat (first | exact Below.refl _ _ | apply below_alloc)⟩, ⟨(blk_cell (blk_alloc (newBlk _ _) _) 15).trans rfl⟩, ⟨(blk_cell (newBlk2 _ _ _) 15).trans rfl⟩⟩
    case round =>
     clear HS
     obtain ⟨k, hk, rfl, HX, HB, H1, H2⟩ := hrel
     have h1 := H1.out
     have h2 := H2.out
     by_cases hkl : k < l.length
     ·obtain ⟨ad, A', c', ea, hK', g0, g1, g2, g3, g4, g5, g6, g7, g8, g9, g10, g11, g12, g13, g14, g15⟩ := at_kid (Kd.C_below HCa.out HB.out) k hkl
      have hkm : k < m.length := by have := HLM.out; omega
      obtain ⟨bd, B', e', eb, hK2, p0, p1, p2, p3, p4, p5, p6, p7, p8, p9, p10, p11, p12, p13, p14, p15⟩ := at_kid (Kd.C_below HCb.out HB.out) k hkm
      subst ea
      subst eb
      have HN := Aside0.mk (show sameL (l.drop k) (m.drop k) = (sameS l[k] m[k] && sameL (l.drop (k + 1)) (m.drop (k + 1))) by rw [List.drop_eq_getElem_cons hkl, List.drop_eq_getElem_cons hkm, sameL])
      have HM := Aside0.mk (List.getElem_mem hkl)
      have HK1 := Aside0.mk hK'
      have HK2 := Aside0.mk hK2
      have HCk := Aside0.mk fun (W : World) (h : Below wr.heap.size wr W) => HI.out l[k] m[k] A' B' c' e' W (by have := HK.out _ HM.out; have := HD.out; omega) (HK1.out.below h) (HK2.out.below h)
      clear hK' hK2
      generalize hx : l[k] = x at *
      generalize hy : m[k] = y at *
      have HXY := Aside0.mk hx
      have HXY2 := Aside0.mk hy
      clear hx hy HM HK1 HK2
      go_wp2
      go_region_held3 (fun w' => w'.cell? ⟨w.heap.size, 15, none⟩ = some (.slice (some ad) l.length c) ∧ w'.cell? ⟨w.heap.size + 1, 15, none⟩ = some (.slice (some bd) m.length e) ∧ w'.cell? (ad.add (k * 16)) = some (.int .i64 x.f0) ∧ w'.cell? ⟨(ad.add (k * 16)).block, (ad.add (k * 16)).off + 1, none⟩ = some (.int .i64 x.f1.f0) ∧ w'.cell? ⟨(ad.add (k * 16)).block, (ad.add (k * 16)).off + 2, none⟩ = some (.int .i64 x.f1.f1) ∧ w'.cell? ⟨(ad.add (k * 16)).block, (ad.add (k * 16)).off + 3, none⟩ = some (.string x.f1.f2) ∧ w'.cell? ⟨(ad.add (k * 16)).block, (ad.add (k * 16)).off + 4, none⟩ = some (.bool x.f1.f3) ∧ w'.cell? ⟨(ad.add (k * 16)).block, (ad.add (k * 16)).off + 5, none⟩ = some (.int .i64 x.f1.f4) ∧ w'.cell? ⟨(ad.add (k * 16)).block, (ad.add (k * 16)).off + 6, none⟩ = some (.int .i64 x.f2.f0.f0) ∧ w'.cell? ⟨(ad.add (k * 16)).block, (ad.add (k * 16)).off + 7, none⟩ = some (.int .i64 x.f2.f0.f1) ∧ w'.cell? ⟨(ad.add (k * 16)).block, (ad.add (k * 16)).off + 8, none⟩ = some (.bool x.f2.f1) ∧ w'.cell? ⟨(ad.add (k * 16)).block, (ad.add (k * 16)).off + 9, none⟩ = some (.bool x.f2.f2) ∧ w'.cell? ⟨(ad.add (k * 16)).block, (ad.add (k * 16)).off + 10, none⟩ = some (.int .i64 x.f3.f0.f0) ∧ w'.cell? ⟨(ad.add (k * 16)).block, (ad.add (k * 16)).off + 11, none⟩ = some (.int .i64 x.f3.f0.f1) ∧ w'.cell? ⟨(ad.add (k * 16)).block, (ad.add (k * 16)).off + 12, none⟩ = some (.bool x.f3.f1) ∧ w'.cell? ⟨(ad.add (k * 16)).block, (ad.add (k * 16)).off + 13, none⟩ = some (.bool x.f3.f2) ∧ w'.cell? ⟨(ad.add (k * 16)).block, (ad.add (k * 16)).off + 14, none⟩ = some (.string x.f4) ∧ w'.cell? ⟨(ad.add (k * 16)).block, (ad.add (k * 16)).off + 15, none⟩ = some (.slice A' x.f5.length c') ∧ w'.cell? (bd.add (k * 16)) = some (.int .i64 y.f0) ∧ w'.cell? ⟨(bd.add (k * 16)).block, (bd.add (k * 16)).off + 1, none⟩ = some (.int .i64 y.f1.f0) ∧ w'.cell? ⟨(bd.add (k * 16)).block, (bd.add (k * 16)).off + 2, none⟩ = some (.int .i64 y.f1.f1) ∧ w'.cell? ⟨(bd.add (k * 16)).block, (bd.add (k * 16)).off + 3, none⟩ = some (.string y.f1.f2) ∧ w'.cell? ⟨(bd.add (k * 16)).block, (bd.add (k * 16)).off + 4, none⟩ = some (.bool y.f1.f3) ∧ w'.cell? ⟨(bd.add (k * 16)).block, (bd.add (k * 16)).off + 5, none⟩ = some (.int .i64 y.f1.f4) ∧ w'.cell? ⟨(bd.add (k * 16)).block, (bd.add (k * 16)).off + 6, none⟩ = some (.int .i64 y.f2.f0.f0) ∧ w'.cell? ⟨(bd.add (k * 16)).block, (bd.add (k * 16)).off + 7, none⟩ = some (.int .i64 y.f2.f0.f1) ∧ w'.cell? ⟨(bd.add (k * 16)).block, (bd.add (k * 16)).off + 8, none⟩ = some (.bool y.f2.f1) ∧ w'.cell? ⟨(bd.add (k * 16)).block, (bd.add (k * 16)).off + 9, none⟩ = some (.bool y.f2.f2) ∧ w'.cell? ⟨(bd.add (k * 16)).block, (bd.add (k * 16)).off + 10, none⟩ = some (.int .i64 y.f3.f0.f0) ∧ w'.cell? ⟨(bd.add (k * 16)).block, (bd.add (k * 16)).off + 11, none⟩ = some (.int .i64 y.f3.f0.f1) ∧ w'.cell? ⟨(bd.add (k * 16)).block, (bd.add (k * 16)).off + 12, none⟩ = some (.bool y.f3.f1) ∧ w'.cell? ⟨(bd.add (k * 16)).block, (bd.add (k * 16)).off + 13, none⟩ = some (.bool y.f3.f2) ∧ w'.cell? ⟨(bd.add (k * 16)).block, (bd.add (k * 16)).off + 14, none⟩ = some (.string y.f4) ∧ w'.cell? ⟨(bd.add (k * 16)).block, (bd.add (k * 16)).off + 15, none⟩ = some (.slice B' y.f5.length e'))
       (first | exact ⟨h1, h2, g0, g1, g2, g3, g4, g5, g6, g7, g8, g9, g10, g11, g12, g13, g14, g15, p0, p1, p2, p3, p4, p5, p6, p7, p8, p9, p10, p11, p12, p13, p14, p15⟩ | exact ⟨(HB1.out.cell (World.block_lt_of_cell? _ _ h1)).trans h1, (HB1.out.cell (World.block_lt_of_cell? _ _ h2)).trans h2, (HB1.out.cell (World.block_lt_of_cell? _ _ g0)).trans g0, (HB1.out.cell (World.block_lt_of_cell? _ _ g1)).trans g1, (HB1.out.cell (World.block_lt_of_cell? _ _ g2)).trans g2, (HB1.out.cell (World.block_lt_of_cell? _ _ g3)).trans g3, (HB1.out.cell (World.block_lt_of_cell? _ _ g4)).trans g4, (HB1.out.cell (World.block_lt_of_cell? _ _ g5)).trans g5, (HB1.out.cell (World.block_lt_of_cell? _ _ g6)).trans g6, (HB1.out.cell (World.block_lt_of_cell? _ _ g7)).trans g7, (HB1.out.cell (World.block_lt_of_cell? _ _ g8)).trans g8, (HB1.out.cell (World.block_lt_of_cell? _ _ g9)).trans g9, (HB1.out.cell (World.block_lt_of_cell? _ _ g10)).trans g10, (HB1.out.cell (World.block_lt_of_cell? _ _ g11)).trans g11, (HB1.out.cell (World.block_lt_of_cell? _ _ g12)).trans g12, (HB1.out.cell (World.block_lt_of_cell? _ _ g13)).trans g13, (HB1.out.cell (World.block_lt_of_cell? _ _ g14)).trans g14, (HB1.out.cell (World.block_lt_of_cell? _ _ g15)).trans g15, (HB1.out.cell (World.block_lt_of_cell? _ _ p0)).trans p0, (HB1.out.cell (World.block_lt_of_cell? _ _ p1)).trans p1, (HB1.out.cell (World.block_lt_of_cell? _ _ p2)).trans p2, (HB1.out.cell (World.block_lt_of_cell? _ _ p3)).trans p3, (HB1.out.cell (World.block_lt_of_cell? _ _ p4)).trans p4, (HB1.out.cell (World.block_lt_of_cell? _ _ p5)).trans p5, (HB1.out.cell (World.block_lt_of_cell? _ _ p6)).trans p6, (HB1.out.cell (World.block_lt_of_cell? _ _ p7)).trans p7, (HB1.out.cell (World.block_lt_of_cell? _ _ p8)).trans p8, (HB1.out.cell (World.block_lt_of_cell? _ _ p9)).trans p9, (HB1.out.cell (World.block_lt_of_cell? _ _ p10)).trans p10, (HB1.out.cell (World.block_lt_of_cell? _ _ p11)).trans p11, (HB1.out.cell (World.block_lt_of_cell? _ _ p12)).trans p12, (HB1.out.cell (World.block_lt_of_cell? _ _ p13)).trans p13, (HB1.out.cell (World.block_lt_of_cell? _ _ p14)).trans p14, (HB1.out.cell (World.block_lt_of_cell? _ _ p15)).trans p15⟩)
       (first
       | (go_at_call 14; refine (HCk.out _ (below_drew (Below.refl _ _))).mono ?_; rintro e w1 ⟨rfl, hb1⟩; have HB1 := Aside0.mk hb1; clear hb1))
      have HB2 := Aside0.mk (below_step HB.out (below_step (below_drew (Below.refl wr.heap.size wr)) HB1.out))
      have H1' := Aside0.mk ((HB1.out.cell (World.block_lt_of_cell? wr _ h1)).trans h1)
      have H2' := Aside0.mk ((HB1.out.cell (World.block_lt_of_cell? wr _ h2)).trans h2)
      cases hq9 : sameS x y with
      | false =>
       have HX2 := Aside0.mk (show false = r by rw [HX.out, HN.out, hq9]; rfl)
       clear hq9
       go_wp2
       go_ret
       exact ⟨ret_b HX2.out, HB2.out⟩
      | true =>
       have HX2 := Aside0.mk (show r = sameL (l.drop (k + 1)) (m.drop (k + 1)) by rw [HX.out, HN.out, hq9]; rfl)
       clear hq9
       go_wp2
       refine ⟨⟨k + 1, by omega, by go_num, HX2, HB2, H1', H2'⟩, ?_⟩
       simp [intOf]; omega
     ·have HN := Aside0.mk (show sameL (l.drop k) (m.drop k) = true by rw [List.drop_of_length_le (by omega), sameL])
      go_wp2
      go_ret
      exact ⟨ret_b (HX.out.trans HN.out).symm, HB.out⟩
   ·have hTn : (!t0 == y0 || !t1 == y1 || (!t2 == y2 || !t3 == y3)) = true := by
     simp only [Bool.or_eq_true, Bool.not_eq_true', beq_eq_false_iff_ne]
     exact Classical.byContradiction fun h => hT (by simp only [not_or, Decidable.not_not, ne_eq] at h; exact h)
    go_enter Tryz.func14, Tryz.ntmps14
    go_wp2
    all_goals (first | (go_ret; exact ⟨ret_b (by rw [HR.out]; clear HR HI HD HK HCa HCb; simp_all [headB]; try (intro hh; exfalso; omega)), by repeat (first | exact Below.refl _ _ | apply below_alloc)⟩) | skip)
  ·have hCn : (!c0 == d0 || !c1 == d1 || (!c2 == d2 || !c3 == d3)) = true := by
    simp only [Bool.or_eq_true, Bool.not_eq_true', beq_eq_false_iff_ne]
    exact Classical.byContradiction fun h => hC (by simp only [not_or, Decidable.not_not, ne_eq] at h; exact h)
   go_enter Tryz.func14, Tryz.ntmps14
   go_wp2
   all_goals (first | (go_ret; exact ⟨ret_b (by rw [HR.out]; clear HR HI HD HK HCa HCb; simp_all [headB]; try (intro hh; exfalso; omega)), by repeat (first | exact Below.refl _ _ | apply below_alloc)⟩) | skip)
 ·have hVn : (!v0 == x0 || (!v1 == x1 || (!v2.toList == x2.toList || (!v3 == x3 || !v4 == x4)))) = true := by
   simp only [Bool.or_eq_true, Bool.not_eq_true', beq_eq_false_iff_ne]
   exact Classical.byContradiction fun h => hV (by simp only [not_or, Decidable.not_not, ne_eq] at h; exact h)
  go_enter Tryz.func14, Tryz.ntmps14
  go_wp2
  all_goals (first | (go_ret; exact ⟨ret_b (by rw [HR.out]; clear HR HI HD HK HCa HCb; simp_all [headB]; try (intro hh; exfalso; omega)), by repeat (first | exact Below.refl _ _ | apply below_alloc)⟩) | skip)
end Go.Proofs.YthnldbclbfpojaaGreatDoor.Pr
end
