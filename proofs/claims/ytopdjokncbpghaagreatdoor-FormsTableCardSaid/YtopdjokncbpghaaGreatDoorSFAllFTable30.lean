/-
  Lemmas for the law FAllFTable.
-/
import Derived.Test.YtopdjokncbpghaaGreatDoorSFAllFTable21
import Derived.Test.YtopdjokncbpghaaGreatDoorSFAllFTable14
import Derived.Deep.RegionHeld3
set_option maxHeartbeats 8000000
set_option maxRecDepth 100000
set_option linter.unusedVariables false
set_option linter.unusedSimpArgs false
section
namespace Go.Proofs.YtopdjokncbpghaaGreatDoor.Pr
open Go.RowKit Go.Proofs.YtopdjokncbpghaaGreatDoorW.PrintWords Go.Proofs.YtopdjokncbpghaaGreatDoorW.PrintLast Go.Proofs.YtopdjokncbpghaaGreatDoorW.PrintMore
def CellsAt (w : World) (p : Addr) (cs : Array Value) : Prop := ∀ (j : Nat) (v : Value), cs.toList[j]? = some v → w.cell? (p.add j) = some v
theorem CellsAt.below {w w1 : World} {p : Addr} {cs : Array Value} (h : CellsAt w p cs) (hb : Below w.heap.size w w1) : CellsAt w1 p cs := fun j v hv => (hb.cell (World.block_lt_of_cell? _ _ (h j v hv))).trans (h j v hv)
theorem rowLdAt {P : Program} {w : World} {p : Addr} {ty : TypeId} {cs : Array Value} {d : TypeDesc} (hC : CellsAt w p cs)
  (hu : P.underlying ty = some d) (hd : (match d with | .struct _ | .array _ _ => true | _ => false) = true) (hi : (P.info? ty).map (·.size) = some cs.size) : (Instr.loadAt ty (.pointer (some p))).run P w = .ok (.agg cs) w := by
 have hl : (loadCells p cs.toList.length).run P w = .ok cs.toList.toArray w :=
  run_loadCells_list (P := P) w p cs.toList (fun j v hv => hC j v hv)
 have hv : (loadVar ty p).run P w = .ok (.agg cs) w := by
  cases hq : P.info? ty with
  | none => simp [hq] at hi
  | some i =>
   have hs : i.size = cs.size := by simpa [hq] using hi
   have hagg : (isAgg ty).run P w = .ok true w := by
    unfold isAgg
    rw [Sem.run_bind, run_underlying hu w]
    cases d <;> simp_all
   simp only [Array.length_toList, Array.toArray_toList] at hl
   simp [loadVar, Sem.run_bind, hagg, sizeOf, typeInfo, hq, hs, hl]
 simp only [Instr.loadAt, Instr.sureAddr, Sem.run_bind, Sem.run_pure, Result.andThen_ok, hv]
theorem rowRunAt {P : Program} {w : World} {p : Addr} {ty : TypeId} {cs : Array Value} {d : TypeDesc} {a : Act} {oi : Oper} {x : Operand} (ho : oi.op = .load ty x) (hx : a.eval x = .pointer (some p)) (hC : CellsAt w p cs)
  (hu : P.underlying ty = some d) (hd : (match d with | .struct _ | .array _ _ => true | _ => false) = true) (hi : (P.info? ty).map (·.size) = some cs.size) : (execOp a.eval oi).run P w = .ok (.value (.agg cs)) w := by
 unfold execOp
 rw [ho]
 simp only [hx, Sem.run_bind, rowLdAt hC hu hd hi, Result.andThen_ok, Sem.run_pure]
theorem wpLdAt {P : Program} {ops : Array Oper} {rest : List Oper} {o : Oper} {a : Act} {w : World} {Q : Exit → Act → World → Prop} (N : Tmp) (hN : o.dst = some N) (hgd : o.guard = none) (ty : TypeId) (x : Operand) (ho : o.op = .load ty x)
  (p : Addr) (hx : a.eval x = .pointer (some p)) (d : TypeDesc) (cs : Array Value) (hC : CellsAt w p cs)
  (hu : P.underlying ty = some d) (hd : (match d with | .struct _ | .array _ _ => true | _ => false) = true) (hi : (P.info? ty).map (·.size) = some cs.size)
  (h : wpList P ops Q rest (a.put (some N) (.agg cs)) w) : wpList P ops Q (o :: rest) a w := by
 refine wpList_plain hgd fun _ hK => ?_
 unfold Oper.wp execOp
 simp only [ho, hx, Sem.run_bind, rowLdAt hC hu hd hi, Result.andThen_ok]
 exact hK _ _ (by rw [hN]; exact h)
theorem sixteen {w : World} {p : Addr} {v0 v1 v2 v3 v4 v5 v6 v7 v8 v9 v10 v11 v12 v13 v14 v15 : Value} (g0 : w.cell? p = some v0) (g1 : w.cell? ⟨p.block, p.off + 1, none⟩ = some v1) (g2 : w.cell? ⟨p.block, p.off + 2, none⟩ = some v2) (g3 : w.cell? ⟨p.block, p.off + 3, none⟩ = some v3) (g4 : w.cell? ⟨p.block, p.off + 4, none⟩ = some v4) (g5 : w.cell? ⟨p.block, p.off + 5, none⟩ = some v5) (g6 : w.cell? ⟨p.block, p.off + 6, none⟩ = some v6) (g7 : w.cell? ⟨p.block, p.off + 7, none⟩ = some v7) (g8 : w.cell? ⟨p.block, p.off + 8, none⟩ = some v8) (g9 : w.cell? ⟨p.block, p.off + 9, none⟩ = some v9) (g10 : w.cell? ⟨p.block, p.off + 10, none⟩ = some v10) (g11 : w.cell? ⟨p.block, p.off + 11, none⟩ = some v11) (g12 : w.cell? ⟨p.block, p.off + 12, none⟩ = some v12) (g13 : w.cell? ⟨p.block, p.off + 13, none⟩ = some v13) (g14 : w.cell? ⟨p.block, p.off + 14, none⟩ = some v14) (g15 : w.cell? ⟨p.block, p.off + 15, none⟩ = some v15) :
  CellsAt w p #[v0, v1, v2, v3, v4, v5, v6, v7, v8, v9, v10, v11, v12, v13, v14, v15] := by
 intro j v hv
 match j, hv with
 | 0, hv => cases hv; exact g0
 | 1, hv => cases hv; exact g1
 | 2, hv => cases hv; exact g2
 | 3, hv => cases hv; exact g3
 | 4, hv => cases hv; exact g4
 | 5, hv => cases hv; exact g5
 | 6, hv => cases hv; exact g6
 | 7, hv => cases hv; exact g7
 | 8, hv => cases hv; exact g8
 | 9, hv => cases hv; exact g9
 | 10, hv => cases hv; exact g10
 | 11, hv => cases hv; exact g11
 | 12, hv => cases hv; exact g12
 | 13, hv => cases hv; exact g13
 | 14, hv => cases hv; exact g14
 | 15, hv => cases hv; exact g15
 | j + 16, hv => cases hv
theorem kid_at {w : World} {A : Option Addr} {l : List Nd} (h : Kd.C k44 w A l.length l) (k : Nat) (hk : k < l.length) : ∃ (ad : Addr) (A' : Option Addr) (c' : Nat), A = some ad ∧ KidsC w A' c' (l[k]).f5 ∧ CellsAt w (ad.add (k * 16)) (nodeA l[k] A' c') := by
 obtain ⟨ad, A', c', e, hK, g0, g1, g2, g3, g4, g5, g6, g7, g8, g9, g10, g11, g12, g13, g14, g15⟩ := at_kid h k hk
 exact ⟨ad, A', c', e, hK, sixteen g0 g1 g2 g3 g4 g5 g6 g7 g8 g9 g10 g11 g12 g13 g14 g15⟩
theorem rowNew {W : World} {g : Nat} {o : Obj} (h : W.heap[g]? = some o) (p : Obj) (cs : Array Value) : ((W.alloc p).setRow W.heap.size cs).heap[g]? = some o := by
 have hlt := blk_lt h
 exact rowOther _ (blk_alloc h _) (by omega)
theorem size_calls (d : Nat) : ∀ (n : Nd) (A : Option Addr) (c : Nat) (m : Int) (w : World) (hd : szN n < d) (hK : KidsC w A c n.f5) (h0 : 0 ≤ m) (h1 : m ≤ 1000000),
  Calls Tryz.prog 73 #[nodeV n A c, .int .i64 m] w fun e w' => e = .returned (.int .i64 (nodesS n m)) ∧ Below w.heap.size w w' := by
 induction d with
 | zero => intro n A c m w hd; omega
 | succ d ih =>
  intro n A c m w hd hK h0 h1
  obtain ⟨hlc, hC⟩ := hK
  have hmax := hC.2.1
  have HC := Aside0.mk hC
  clear hC
  have HI := Aside0.mk ih
  clear ih
  have HD := Aside0.mk hd
  clear hd
  have HR := Aside0.mk (nodesS_eq n m)
  generalize nodesS n m = r at HR ⊢
  go_enter Tryz.func73, Tryz.ntmps73
  go_wp2
  go_loopw [5, 11] (fun all i wr => ∃ (k : Nat) (x : Int), k ≤ n.f5.length ∧ i = .int .i64 k ∧ all = .int .i64 x ∧ 1 ≤ x ∧ x ≤ m + 1 ∧ Aside0 (r = nodesL (n.f5.drop k) m x) ∧ Aside0 (Below w.heap.size w wr)) (fun _ i _ => n.f5.length - (intOf i).toNat)
  case atStart => exact ⟨0, 1, by omega, rfl, rfl, by omega, by omega, HR, ⟨bel1 w _⟩⟩
  case round =>
   obtain ⟨k, x, hk, rfl, rfl, hx1, hx2, HX, HB⟩ := hrel
   by_cases hkl : k < n.f5.length
   ·obtain ⟨ad, A', c', e, hK', g0, g1, g2, g3, g4, g5, g6, g7, g8, g9, g10, g11, g12, g13, g14, g15⟩ := at_kid (Kd.C_below HC.out HB.out) k hkl
    subst e
    have HK' := Aside0.mk hK'
    clear hK'
    by_cases hxm : x ≤ m
    ·have HN := Aside0.mk (show nodesL (n.f5.drop k) m x = nodesL (n.f5.drop (k + 1)) m (x + nodesS n.f5[k] (m - x)) by rw [List.drop_eq_getElem_cons hkl, nodesL, if_pos hxm])
     have hbd := nodesS_bd n.f5[k] (m - x) (by omega)
     have HM := Aside0.mk (List.getElem_mem hkl)
     go_wp2_with (go_at_call 73; (with_reducible refine (HI.out n.f5[k] A' c' (m - x) _ (by have := kid_lt HM.out; have := HD.out; omega) (HK'.out.below (bel1 wr _)) (by omega) (by omega)).mono ?_); rintro e w1 ⟨rfl, hb⟩; have HB1 := Aside0.mk hb; clear hb)
     refine ⟨⟨k + 1, x + nodesS n.f5[k] (m - x), by omega, by go_num, rfl, by omega, by omega, ⟨HX.out.trans HN.out⟩, ⟨below_step (below_alloc HB.out _) HB1.out⟩⟩, ?_⟩
     simp [intOf]; omega
    ·have HN := Aside0.mk (show nodesL (n.f5.drop k) m x = x by rw [List.drop_eq_getElem_cons hkl, nodesL, if_neg hxm])
     obtain rfl : x = m + 1 := by omega
     clear hxm
     go_wp2
     go_ret
     exact ⟨ret_i (HX.out.trans HN.out).symm, below_alloc HB.out _⟩
   ·have HN := Aside0.mk (show nodesL (n.f5.drop k) m x = x by rw [List.drop_of_length_le (by omega), nodesL])
    go_wp2
    go_ret
    exact ⟨ret_i (HX.out.trans HN.out).symm, HB.out⟩
theorem levelsL_stop : ∀ (l : List Nd) (m u : Int), ¬ u < m → levelsL l m u = u
 | [], _, _, _ => by rw [levelsL]
 | _ :: _, _, _, h => by rw [levelsL, if_neg h]
theorem height_calls (d : Nat) : ∀ (n : Nd) (A : Option Addr) (c : Nat) (m : Int) (w : World) (hd : szN n < d) (hK : KidsC w A c n.f5) (h0 : 0 ≤ m) (h1 : m ≤ 1000000),
  Calls Tryz.prog 74 #[nodeV n A c, .int .i64 m] w fun e w' => e = .returned (.int .i64 (levelsS n m)) ∧ Below w.heap.size w w' := by
 induction d with
 | zero => intro n A c m w hd; omega
 | succ d ih =>
  intro n A c m w hd hK h0 h1
  obtain ⟨hlc, hC⟩ := hK
  have hmax := hC.2.1
  have HC := Aside0.mk hC
  clear hC
  have HI := Aside0.mk ih
  clear ih
  have HD := Aside0.mk hd
  clear hd
  by_cases hm : m ≤ 0
  ·have HR := Aside0.mk (show levelsS n m = 1 by rw [levelsS_eq, if_pos hm])
   have hmd : m < 1 := by omega
   clear hm
   generalize levelsS n m = r at HR ⊢
   go_enter Tryz.func74, Tryz.ntmps74
   go_wp2
   go_ret
   exact ⟨ret_i HR.out.symm, bel1 w _⟩
  have HR := Aside0.mk (show levelsS n m = 1 + levelsL n.f5 m 0 by rw [levelsS_eq, if_neg hm])
  have hmd : 1 ≤ m := by omega
  clear hm
  generalize levelsS n m = r at HR ⊢
  go_enter Tryz.func74, Tryz.ntmps74
  go_wp2
  go_loopw [5, 13] (fun u i wr => ∃ (k : Nat) (x : Int), k ≤ n.f5.length ∧ i = .int .i64 k ∧ u = .int .i64 x ∧ 0 ≤ x ∧ x < m ∧ Aside0 (r = 1 + levelsL (n.f5.drop k) m x) ∧ Aside0 (Below w.heap.size w wr)) (fun _ i _ => n.f5.length - (intOf i).toNat)
  case atStart => exact ⟨0, 0, by omega, rfl, rfl, by omega, by omega, HR, ⟨bel1 w _⟩⟩
  case round =>
   obtain ⟨k, x, hk, rfl, rfl, hx1, hx2, HX, HB⟩ := hrel
   by_cases hkl : k < n.f5.length
   ·obtain ⟨ad, A', c', e, hK', g0, g1, g2, g3, g4, g5, g6, g7, g8, g9, g10, g11, g12, g13, g14, g15⟩ := at_kid (Kd.C_below HC.out HB.out) k hkl
    subst e
    have HK' := Aside0.mk hK'
    clear hK'
    have HN := Aside0.mk (show levelsL (n.f5.drop k) m x = levelsL (n.f5.drop (k + 1)) m (if x < levelsS n.f5[k] (m - 1) then levelsS n.f5[k] (m - 1) else x) by rw [List.drop_eq_getElem_cons hkl, levelsL, if_pos hx2])
    have hbd := levelsS_bd n.f5[k] (m - 1) (by omega)
    have HM := Aside0.mk (List.getElem_mem hkl)
    generalize hq : levelsS n.f5[k] (m - 1) = q at HN hbd
    have HQ := Aside0.mk hq
    clear hq
    by_cases hxq : x < q
    ·have HN2 := Aside0.mk (show levelsL (n.f5.drop k) m x = levelsL (n.f5.drop (k + 1)) m q by rw [HN.out, if_pos hxq])
     clear HN
     by_cases hqm : q < m
     all_goals
      go_wp2_with (go_at_call 74; (with_reducible refine (HI.out n.f5[k] A' c' (m - 1) _ (by have := kid_lt HM.out; have := HD.out; omega) (HK'.out.below (bel1 wr _)) (by omega) (by omega)).mono ?_); rintro e w1 ⟨e1, hb⟩; rw [HQ.out] at e1; subst e1; have HB1 := Aside0.mk hb; clear hb)
     ·refine ⟨⟨k + 1, q, by omega, by go_num, by simp [hxq], by omega, by omega, ⟨by rw [HX.out, HN2.out]⟩, ⟨below_step (below_alloc HB.out _) HB1.out⟩⟩, ?_⟩
      simp [intOf]; omega
     ·go_ret
      exact ⟨ret_i (by rw [HX.out, HN2.out, levelsL_stop _ _ _ (by omega)]; omega), below_step (below_alloc HB.out _) HB1.out⟩
    ·have HN2 := Aside0.mk (show levelsL (n.f5.drop k) m x = levelsL (n.f5.drop (k + 1)) m x by rw [HN.out, if_neg hxq])
     clear HN
     go_wp2_with (go_at_call 74; (with_reducible refine (HI.out n.f5[k] A' c' (m - 1) _ (by have := kid_lt HM.out; have := HD.out; omega) (HK'.out.below (bel1 wr _)) (by omega) (by omega)).mono ?_); rintro e w1 ⟨e1, hb⟩; rw [HQ.out] at e1; subst e1; have HB1 := Aside0.mk hb; clear hb)
     refine ⟨⟨k + 1, x, by omega, by go_num, by simp [hxq], by omega, by omega, ⟨by rw [HX.out, HN2.out]⟩, ⟨below_step (below_alloc HB.out _) HB1.out⟩⟩, ?_⟩
     simp [intOf]; omega
   ·have HN := Aside0.mk (show levelsL (n.f5.drop k) m x = x by rw [List.drop_of_length_le (by omega), levelsL])
    go_wp2
    go_ret
    exact ⟨ret_i (by rw [HX.out, HN.out]; omega), HB.out⟩
theorem measure_calls (n : Nd) (A : Option Addr) (c : Nat) (m d : Int) (w : World) (hK : KidsC w A c n.f5) (h0 : 0 ≤ m) (h1 : m ≤ 1000000) (d0 : 0 ≤ d) (d1 : d ≤ 1000000) :
  Calls Tryz.prog 53 #[nodeV n A c, .int .i64 m, .int .i64 d] w fun e w' => e = .returned (.tuple #[.int .i64 (nodesS n m), .int .i64 (levelsS n d)]) ∧ Below w.heap.size w w' := by
 have HK := Aside0.mk hK
 clear hK
 have cN := Aside0.mk fun (W : World) (h : Below w.heap.size w W) => size_calls (szN n + 1) n A c m W (Nat.lt_succ_self _) (HK.out.below h) h0 h1
 have cL := Aside0.mk fun (W : World) (h : Below w.heap.size w W) => height_calls (szN n + 1) n A c d W (Nat.lt_succ_self _) (HK.out.below h) d0 d1
 go_enter Tryz.func53, Tryz.ntmps53
 go_wp2
 have HB0 := Aside0.mk (below_alloc (Below.refl w.heap.size w) (.cells (nodeA n A c) 44))
 have HBk := Aside0.mk (newBlk w (.cells (nodeA n A c) 44))
 generalize w.alloc (.cells (nodeA n A c) 44) = w0 at HB0 HBk ⊢
 have HBd := Aside0.mk (blk_drew HBk.out)
 have HB0d := Aside0.mk (below_drew1 HB0.out)
 go_region_held3 (fun w' => w'.cell? ⟨w.heap.size, 0, none⟩ = some (.int .i64 n.f0) ∧ w'.cell? ⟨w.heap.size, 1, none⟩ = some (.int .i64 n.f1.f0) ∧ w'.cell? ⟨w.heap.size, 2, none⟩ = some (.int .i64 n.f1.f1) ∧ w'.cell? ⟨w.heap.size, 3, none⟩ = some (.string n.f1.f2) ∧ w'.cell? ⟨w.heap.size, 4, none⟩ = some (.bool n.f1.f3) ∧ w'.cell? ⟨w.heap.size, 5, none⟩ = some (.int .i64 n.f1.f4) ∧ w'.cell? ⟨w.heap.size, 6, none⟩ = some (.int .i64 n.f2.f0.f0) ∧ w'.cell? ⟨w.heap.size, 7, none⟩ = some (.int .i64 n.f2.f0.f1) ∧ w'.cell? ⟨w.heap.size, 8, none⟩ = some (.bool n.f2.f1) ∧ w'.cell? ⟨w.heap.size, 9, none⟩ = some (.bool n.f2.f2) ∧ w'.cell? ⟨w.heap.size, 10, none⟩ = some (.int .i64 n.f3.f0.f0) ∧ w'.cell? ⟨w.heap.size, 11, none⟩ = some (.int .i64 n.f3.f0.f1) ∧ w'.cell? ⟨w.heap.size, 12, none⟩ = some (.bool n.f3.f1) ∧ w'.cell? ⟨w.heap.size, 13, none⟩ = some (.bool n.f3.f2) ∧ w'.cell? ⟨w.heap.size, 14, none⟩ = some (.string n.f4) ∧ w'.cell? ⟨w.heap.size, 15, none⟩ = some (.slice A n.f5.length c)) (first | exact ⟨(blk_cell HBk.out 0).trans rfl, (blk_cell HBk.out 1).trans rfl, (blk_cell HBk.out 2).trans rfl, (blk_cell HBk.out 3).trans rfl, (blk_cell HBk.out 4).trans rfl, (blk_cell HBk.out 5).trans rfl, (blk_cell HBk.out 6).trans rfl, (blk_cell HBk.out 7).trans rfl, (blk_cell HBk.out 8).trans rfl, (blk_cell HBk.out 9).trans rfl, (blk_cell HBk.out 10).trans rfl, (blk_cell HBk.out 11).trans rfl, (blk_cell HBk.out 12).trans rfl, (blk_cell HBk.out 13).trans rfl, (blk_cell HBk.out 14).trans rfl, (blk_cell HBk.out 15).trans rfl⟩ | exact ⟨(blk_cell (blk_below HBd.out HB1.out) 0).trans rfl, (blk_cell (blk_below HBd.out HB1.out) 1).trans rfl, (blk_cell (blk_below HBd.out HB1.out) 2).trans rfl, (blk_cell (blk_below HBd.out HB1.out) 3).trans rfl, (blk_cell (blk_below HBd.out HB1.out) 4).trans rfl, (blk_cell (blk_below HBd.out HB1.out) 5).trans rfl, (blk_cell (blk_below HBd.out HB1.out) 6).trans rfl, (blk_cell (blk_below HBd.out HB1.out) 7).trans rfl, (blk_cell (blk_below HBd.out HB1.out) 8).trans rfl, (blk_cell (blk_below HBd.out HB1.out) 9).trans rfl, (blk_cell (blk_below HBd.out HB1.out) 10).trans rfl, (blk_cell (blk_below HBd.out HB1.out) 11).trans rfl, (blk_cell (blk_below HBd.out HB1.out) 12).trans rfl, (blk_cell (blk_below HBd.out HB1.out) 13).trans rfl, (blk_cell (blk_below HBd.out HB1.out) 14).trans rfl, (blk_cell (blk_below HBd.out HB1.out) 15).trans rfl⟩ | exact ⟨(blk_cell (blk_below (blk_below HBd.out HB1.out) HB2.out) 0).trans rfl, (blk_cell (blk_below (blk_below HBd.out HB1.out) HB2.out) 1).trans rfl, (blk_cell (blk_below (blk_below HBd.out HB1.out) HB2.out) 2).trans rfl, (blk_cell (blk_below (blk_below HBd.out HB1.out) HB2.out) 3).trans rfl, (blk_cell (blk_below (blk_below HBd.out HB1.out) HB2.out) 4).trans rfl, (blk_cell (blk_below (blk_below HBd.out HB1.out) HB2.out) 5).trans rfl, (blk_cell (blk_below (blk_below HBd.out HB1.out) HB2.out) 6).trans rfl, (blk_cell (blk_below (blk_below HBd.out HB1.out) HB2.out) 7).trans rfl, (blk_cell (blk_below (blk_below HBd.out HB1.out) HB2.out) 8).trans rfl, (blk_cell (blk_below (blk_below HBd.out HB1.out) HB2.out) 9).trans rfl, (blk_cell (blk_below (blk_below HBd.out HB1.out) HB2.out) 10).trans rfl, (blk_cell (blk_below (blk_below HBd.out HB1.out) HB2.out) 11).trans rfl, (blk_cell (blk_below (blk_below HBd.out HB1.out) HB2.out) 12).trans rfl, (blk_cell (blk_below (blk_below HBd.out HB1.out) HB2.out) 13).trans rfl, (blk_cell (blk_below (blk_below HBd.out HB1.out) HB2.out) 14).trans rfl, (blk_cell (blk_below (blk_below HBd.out HB1.out) HB2.out) 15).trans rfl⟩)
  (first
  | (go_at_call 73; refine (cN.out _ (below_drew1 HB0.out)).mono ?_; rintro e w1 ⟨rfl, hb1⟩; have HB1 := Aside0.mk hb1; clear hb1)
  | (go_at_call 74; refine (cL.out _ (below_step HB0d.out HB1.out)).mono ?_; rintro e w2 ⟨rfl, hb2⟩; have HB2 := Aside0.mk hb2; clear hb2))
 go_wp2
 go_ret2
 exact ⟨rfl, below_step (below_step HB0d.out HB1.out) HB2.out⟩
end Go.Proofs.YtopdjokncbpghaaGreatDoor.Pr
end
