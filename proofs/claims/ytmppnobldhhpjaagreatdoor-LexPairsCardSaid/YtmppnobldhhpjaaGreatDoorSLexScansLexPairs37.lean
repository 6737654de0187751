/-
  Lemmas for the law LexScansLexPairs.
-/
import Derived.Test.YtmppnobldhhpjaaGreatDoorSLexScansLexPairs36
import Derived.Test.YtmppnobldhhpjaaGreatDoorSLexScansLexPairs31
import Derived.Maps.OwnIn
import Derived.RangeFuncBox
import Derived.Laws.IdiomStrings
import Derived.Lib.BufferRead
section
namespace Go.Proofs.YtmppnobldhhpjaaGreatDoor.Pr
set_option linter.unusedVariables false
set_option linter.unusedSimpArgs false
open Go.RowKit Go.Shelf Go.Proofs.YtmppnobldhhpjaaGreatDoorW.PrintWords Go.Proofs.YtmppnobldhhpjaaGreatDoorW.PrintLast Go.Proofs.YtmppnobldhhpjaaGreatDoorW.PrintMore
attribute [local go_sem] Oper.semAt_some
def lscn9.T9 : Bool × List (List Nat × List Nat) := (true, [([], []), ([0], [0]), ([1], [1]), ([2], [2]), ([], []), ([4], [4]), ([5], [5]), ([6], [6]), ([], []), ([3, 8, 0, 1, 2, 3, 8], [3]), ([7, 9, 0, 1, 2, 3, 4, 5, 6, 7, 8, 9], [7])])
def lscn9.B9 : List Nat := [0, 1, 3, 7, 0, 16, 48, 112, 0, 271, 1023]
theorem lscn9.tab9 : rtab .any (opsOf Tryz.f8 9) = lscn9.T9 := by kernel_rfl
theorem lscn9.bits9 : waitsOk lscn9.T9.2 lscn9.B9 = true := by kernel_rfl
theorem blkO_drew {W : World} {D : Nat} {o : Obj} (h : W.heap[D]? = some o) : W.drew.heap[D]? = some o := h
section
variable {F : Fence} {nF : Nat} {P : Program} {ops : Array Oper} {rest : List Oper} {o : Oper} {a : Act} {Q : Exit → Act → World → Prop} {α : Type}
theorem append_cellsIn {W : World} (base : Nat) (hgd : o.guard = none) (s x : Operand) (t e : TypeId) (z : Value) (size bytes : Nat)
    (ho : o.op = .call { callee := .builtin .append, args := #[s, x], argTypes := #[t, t] })
    (ht : P.underlying t = some (.slice e)) (hinfo : (P.info? e).map (fun i => (i.zero, i.size, i.bytes)) = some (some z, size, bytes)) (hz : z.cells.size = size) (hs0 : 0 < size) (hb0 : 0 < bytes)
    (v : Value) (n : Nat) (xs ys : List Value) (hs : a.eval s = v) (hx : a.eval x = .slice (some ⟨W.heap.size, 0, none⟩) 1 1) (hys : ys.length = size) (h1 : ∀ u ∈ ys, u.oneCell' = true)
    (HO : W.ownsRow base e size v n xs) (hbase : base ≤ W.heap.size) (hl : (n + 1) * bytes ≤ 140737488355328)
    (h : ∀ v1 w1, w1.ownsRow base e size v1 (n + 1) (xs ++ ys) → W.grownBy w1 v.ownBlock → (v1.ownBlock = v.ownBlock ∨ ∃ b, v1.ownBlock = some b ∧ W.heap.size ≤ b) → wpListIn F nF P ops Q rest (a.put o.dst v1) w1) :
    wpListIn F nF P ops Q (o :: rest) a (W.alloc (.cells ys.toArray e)) := by
  obtain ⟨i0, hi, hzz⟩ := Option.map_eq_some_iff.1 hinfo
  simp only [Prod.mk.injEq] at hzz
  obtain ⟨hz0, hz1, hz2⟩ := hzz
  have hlen : n + 1 ≤ 140737488355328 := Nat.le_trans (Nat.le_mul_of_pos_right _ hb0) hl
  refine wpListIn_append_own_at (W.alloc (.cells ys.toArray e)) hgd s x t ho base e i0 z size bytes ht hi hz0 hz1 hz2 hz hs0 v n xs hs (HO.alloc _) ⟨W.heap.size, 0, none⟩ 1 1 ys hx (by rw [hys]; simp)
    (by simpa using World.news_of_block (cs := ys.toArray) (t := e) (fr := (0, 0)) (heap_alloc_new W (.cells ys.toArray e))) h1 (by simp only [maxLen]; omega) hl (by simp; omega) ?_
  intro v1 w1 hown hg _ hat
  refine h v1 w1 hown (World.grownBy.trans (World.grownBy_alloc W _ _) hg) ?_
  rcases hat with hat | hat
  · exact .inl hat
  · exact .inr ⟨_, hat, by simp⟩
theorem R_appendIn (d : Kd α) {W : World} (base : Nat) (hgd : o.guard = none) (s x : Operand) (t e : TypeId) (z : Value) (bytes : Nat)
    (ho : o.op = .call { callee := .builtin .append, args := #[s, x], argTypes := #[t, t] })
    (ht : P.underlying t = some (.slice e)) (hinfo : (P.info? e).map (fun i => (i.zero, i.size, i.bytes)) = some (some z, d.sz, bytes)) (hz : z.cells.size = d.sz) (hs0 : 0 < d.sz) (hb0 : 0 < bytes)
    (v : Value) (xs : List α) (p : α) (cs : List Value) (ok okp : Nat → Prop) (hs : a.eval s = v) (hx : a.eval x = .slice (some ⟨W.heap.size, 0, none⟩) 1 1) (hp : d.M W base okp p cs) (hokp : ∀ k, okp k → ok k ∧ some k ≠ v.ownBlock) (hfresh : ∀ k, W.heap.size ≤ k → ok k)
    (HO : d.R e W base ok v xs) (hbase : base ≤ W.heap.size) (hl : (xs.length + 1) * bytes ≤ 140737488355328)
    (h : ∀ v1 w1, d.R e w1 base ok v1 (xs ++ [p]) → W.grownBy w1 v.ownBlock → (v1.ownBlock = v.ownBlock ∨ ∃ b, v1.ownBlock = some b ∧ W.heap.size ≤ b) → wpListIn F nF P ops Q rest (a.put o.dst v1) w1) :
    wpListIn F nF P ops Q (o :: rest) a (W.alloc (.cells cs.toArray e)) := by
  obtain ⟨h0, inner, hown, hr⟩ := HO
  refine append_cellsIn base hgd s x t e z d.sz bytes ho ht hinfo hz hs0 hb0 v xs.length inner cs hs hx (d.K_len (d.K_of_M hp)) (d.K_one (d.K_of_M hp)) hown hbase hl ?_
  intro v1 w1 hown1 hg1 hat1
  exact h v1 w1 (Kd.R_appended h0 hr hp hokp hfresh hown1 hg1 hat1) hg1 hat1
end
theorem scanF_len : ∀ (f i : Nat) (l : List UInt8), (scanF f i l).1.length ≤ l.length + 1
  | 0, i, l => by simp [scanF]
  | f + 1, i, [] => by simp [scanF]
  | f + 1, i, c :: r => by
    by_cases hc : c = 32
    · subst hc
      have := scanF_len f (i + 1) r
      show (scanF f (i + 1) r).1.length ≤ _
      simp only [List.length_cons]
      omega
    · rw [scanF_tok f i c r hc]
      split
      · rename_i h
        have h1 := scanF_len f (i + (oneT7 (c :: r)).2.1) ((c :: r).drop (oneT7 (c :: r)).2.1)
        have h2 := oneT7_len _ h
        rw [List.length_drop] at h1
        split
        · simp only [List.length_cons] at h1 h2 ⊢
          omega
        · simp
      · simp
theorem noCells {W : World} {k : Nat} {cs : Array Value} {t : TypeId} {fr : Nat × Nat} (h : W.heap[k]? = some (.cells cs t fr)) (hn : ∃ o : Obj, W.heap[k]? = some o ∧ o.isCells = false) : False := by
  obtain ⟨o, ho, hc⟩ := hn
  rw [h] at ho
  cases ho
  cases hc
theorem noPanic {n : Nat} {P : Program} {c : Code} {K : Act → World → Prop} {Q : Exit → Act → World → Prop} {a : Act} {w : World} (h : c.wp P (fun e a w => match e with | .normal => K a w | _ => False) a w) : c.wpIn Fence.wide n P (Exit.then K Q) a w :=
  wpIn_mono (wpIn_wide.2 h) (fun e a w hq => by
    cases e with
    | normal => exact hq
    | _ => exact hq.elim)
def HoldT (B : Nat) (xs : List Tk) (W : World) : Prop := ∃ v, Boxed W B 22 v ∧ Kd.R k45 45 W B (fun k => k ≠ B) v xs
theorem HoldT.below {B : Nat} {xs : List Tk} {W W1 : World} (h : HoldT B xs W) (hb : Below W.heap.size W W1) : HoldT B xs W1 := by
  obtain ⟨v, hB, hR⟩ := h
  exact ⟨v, blk_below hB hb, Kd.R_below hR hb⟩
theorem HoldT.own {B X M : Nat} {xs : List Tk} {W W' : World} {row : Option Nat} (hXB : X < B) (hBM : B < M) (h : HoldT B xs W) (hg : W.grownBy W' row) (hr : ∀ r, row = some r → r = X ∨ (M ≤ r ∧ ∃ o : Obj, W.heap[r]? = some o ∧ o.isCells = false)) : HoldT B xs W' := by
  obtain ⟨v, hB, hR⟩ := h
  refine ⟨v, blk_grown hB hg (fun e => ?_), Kd.R_mono (Kd.R_grown (Kd.R_bound hR) hg (fun k hk e => ?_)) (fun k hk => hk.1)⟩
  · rcases hr _ e.symm with q | ⟨q, _⟩ <;> omega
  · obtain ⟨_, hb, _, q, _, cells, hc⟩ := hk
    rcases hr k e.symm with q | ⟨_, o, ho, hn⟩
    · omega
    · rw [hc] at ho
      cases ho
      cases hn
set_option maxHeartbeats 8000000 in
set_option maxRecDepth 100000 in
theorem scan_big (tx : List UInt8) (w : World) (hlen : 1024 < tx.length) :
    CallsIn Fence.wide 5 Tryz.prog 8 #[.string (bl tx)] w fun e w' => e = .returned (.tuple #[.slice none 0 0, .int .i64 0, .int .i64 7]) ∧ Below w.heap.size w w' := by
  have hsz : (bl tx).size = tx.length := bl_size tx
  generalize bl tx = s at hsz
  have hd1 : decide ((s.size : Int) > 1024) = true := decide_eq_true (by omega)
  have hd2 : (s.size : Int) > 1024 := by omega
  clear hsz
  refine callsIn_of_wp_marks Tryz.func8 rfl trivial ?_ rfl
  simp only [Tryz.ntmps8, List.size_toArray, List.length_cons, List.length_nil, Nat.reduceAdd, Nat.reduceSub, Array.replicate_succ, Array.replicate_zero, List.push_toArray, List.append_toArray, List.nil_append, List.cons_append]
  gi_wp2
  exact ⟨_, results_tmp3 rfl _ _ _, rfl, Below.refl _ _⟩
set_option maxHeartbeats 8000000 in
set_option maxRecDepth 100000 in
theorem scan_in (tx : List UInt8) (w : World) (hL0 : Aside0 (LaidW w)) (hlen : tx.length ≤ 1024) :
    CallsIn Fence.wide 5 Tryz.prog 8 #[.string (bl tx)] w fun e w' => ∃ v, e = .returned (.tuple #[v, .int .i64 ((scanL tx).2.1 : Nat), .int .i64 (scanL tx).2.2]) ∧ Kd.R k45 45 w' w.heap.size (fun _ => True) v (scanL tx).1 ∧ Below w.heap.size w w' := by
  have hsz : (bl tx).size = tx.length := bl_size tx
  have HLn := Aside0.mk hlen
  have hd1 : decide (((bl tx).size : Int) > 1024) = false := decide_eq_false (by omega)
  have hd2 : ¬((bl tx).size : Int) > 1024 := by omega
  clear hsz
  obtain ⟨s, hs⟩ : ∃ s, bl tx = s := ⟨_, rfl⟩
  rw [hs] at hd1 hd2
  rw [hs]
  have HS := Aside0.mk hs
  clear hs hlen
  refine callsIn_of_wp_marks Tryz.func8 rfl trivial ?_ rfl
  simp only [Tryz.ntmps8, List.size_toArray, List.length_cons, List.length_nil, Nat.reduceAdd, Nat.reduceSub, Array.replicate_succ, Array.replicate_zero, List.push_toArray, List.append_toArray, List.nil_append, List.cons_append]
  gi_wp2_with (first
    | ((try refine ⟨trivial, ?_⟩); gi_at_call 14; refine (callsIn_wide.2 (tokens_calls _ _)).mono ?_; rintro e w2 ⟨rfl, rfl⟩))
  have bG : (((w.alloc (.cells #[.string s, .int .i64 0, .int .i64 0] 48)).alloc (.cells #[.slice none 0 0] 22)).alloc (.cells #[ptV w.heap.size] 46)).heap[w.heap.size]? = some (.cells #[.string s, .int .i64 0, .int .i64 0] 48 (0, 0)) := blk_alloc (blk_alloc (newBlk w _) _) _
  have bO : Boxed (((w.alloc (.cells #[.string s, .int .i64 0, .int .i64 0] 48)).alloc (.cells #[.slice none 0 0] 22)).alloc (.cells #[ptV w.heap.size] 46)) (w.heap.size + 1) 22 (.slice none 0 0) := blk_alloc (newBlk2 w _ _) _
  have bC : (((w.alloc (.cells #[.string s, .int .i64 0, .int .i64 0] 48)).alloc (.cells #[.slice none 0 0] 22)).alloc (.cells #[ptV w.heap.size] 46)).heap[w.heap.size + 1 + 1]? = some (.cells #[ptV w.heap.size] 46 (0, 0)) := by
    have h := newBlk ((w.alloc (.cells #[.string s, .int .i64 0, .int .i64 0] 48)).alloc (.cells #[.slice none 0 0] 22)) (.cells #[ptV w.heap.size] 46)
    simpa using h
  have hB0 : Below w.heap.size w (((w.alloc (.cells #[.string s, .int .i64 0, .int .i64 0] 48)).alloc (.cells #[.slice none 0 0] 22)).alloc (.cells #[ptV w.heap.size] 46)) := below_alloc (below_alloc (bel1 w _) _) _
  have hsz : (((w.alloc (.cells #[.string s, .int .i64 0, .int .i64 0] 48)).alloc (.cells #[.slice none 0 0] 22)).alloc (.cells #[ptV w.heap.size] 46)).heap.size = w.heap.size + 3 := by simp
  obtain ⟨W0, hW0⟩ : ∃ W0, (((w.alloc (.cells #[.string s, .int .i64 0, .int .i64 0] 48)).alloc (.cells #[.slice none 0 0] 22)).alloc (.cells #[ptV w.heap.size] 46)) = W0 := ⟨_, rfl⟩
  rw [hW0] at bG bO bC hB0 hsz ⊢
  clear hW0
  refine wpIn_rangeFunc_X (X := w.heap.size) (encs := fun x : Tk => #[.agg (TkA x)]) (Kp := KpT w w.heap.size (w.heap.size + 1 + 1)) (S := EndS tx) (N := 1024) rfl (enters_of Tryz.func16 (by kernel_rfl) rfl)
    (fun l J W hl hb hJ hY h0 => tok1_in 4 l w w.heap.size (w.heap.size + 1 + 1) tx HLn.out J hL0 hJ (by omega) (by omega) hY W (blk_below bC hb) ⟨blk_below (by rw [HS.out]; exact bG) hb, Nat.le_refl _⟩ (hB0.trans (hb.mono hB0.size)) h0)
    (by omega) KpT.trans (fun W l o o' hl h => ⟨⟨rfl, rfl, rfl, by simp, fun k hk => World.putObj_heap_other (by omega)⟩, World.putObj_heap_other (by omega), World.putObj_heap_other (by omega)⟩) (fun _ => rfl)
    (fun pre W => HoldT (w.heap.size + 1) pre W ∧ Below w.heap.size w W ∧ W0.heap.size ≤ W.heap.size ∧ W.heap[w.heap.size + 1 + 1]? = some (.cells #[ptV w.heap.size] 46 (0, 0)))
    (fun pre W W' row hs hg hr => ⟨hs.1.own (X := w.heap.size) (M := W0.heap.size) (by omega) (by omega) hg hr, hs.2.1.grown hg hs.2.1.size (fun k e => by rcases hr k e with q | ⟨q, _⟩ <;> omega), Nat.le_trans hs.2.2.1 hg.size, (hg.block _ (blk_lt hs.2.2.2) (fun e => (hr _ e.symm).elim (fun q => by omega) (fun q => noCells hs.2.2.2 q.2))).trans hs.2.2.2⟩)
    ⟨⟨_, bO, Kd.R_nil _ _ _ _ _⟩, hB0, Nat.le_refl _, bC⟩
    (fun x a' W => ∃ Bx, w.heap.size + 2 < Bx ∧ W.heap[Bx]? = some (.cells (TkA x) 45 (0, 0)) ∧ a' = { tmps := #[.string s, undef, .slice none 0 0, .int .i64 0, .int .i64 0, ptV w.heap.size, ptV (w.heap.size + 1), ptV Bx, .string s, .int .i64 (s.size : Int), .bool false, .string s, .agg #[.string s, .int .i64 0, .int .i64 0], ptV w.heap.size, ptV w.heap.size, .func (.func 16) #[] #[ptV (w.heap.size + 1 + 1)], .agg (TkA x), undef, undef, undef, undef, undef, undef, undef, undef, undef, undef, undef, undef, undef, undef, undef, undef, undef, undef, undef, undef, undef, undef, undef], defers := [] })
    (fun x a' _ X Y row hs hg hr => by
      obtain ⟨Bx, h1, h2, h3⟩ := hs
      refine ⟨Bx, h1, blk_grown h2 hg (fun e => ?_), h3⟩
      obtain ⟨_, o, ho, hn⟩ := hr Bx e.symm
      rw [h2] at ho
      cases ho
      cases hn)
    ?assign ?body ?done
  case assign =>
    rintro l pre x W K ⟨hH, hB1, hS1, hC1⟩ hK'
    have hle : w.heap.size ≤ W.heap.size := hB1.size
    gi_wp2_with (refine wpNewStIn rfl 45 (.tmp 7) (.tmp 16) rfl (TkA x) rfl rfl 45 _ (by kernel_rfl) rfl rfl ?_)
    have hb := bel1 W (.cells (TkA x) 45)
    exact hK' _ _ ((KeepsOthers.alloc _ _).from _) ⟨hb.mono hle, hb.block _ (by omega), hb.block _ (by omega)⟩ ⟨hH.below hb, hB1.trans (hb.mono hle), Nat.le_trans hS1 hb.size, blk_below hC1 hb⟩ ⟨W.heap.size, by omega, newBlk W _, rfl⟩
  case body =>
    rintro l pre x a' W hl ⟨hH, hB1, hS1, hC1⟩ ⟨Bx, hBx, bX, rfl⟩ hlt
    obtain ⟨v, hBx1, hR⟩ := hH
    obtain ⟨A2, c2, rfl, hle, _⟩ := Kd.R_reads hR
    have H5 := Aside0.mk hBx1
    have H6 := Aside0.mk hR
    have HX := Aside0.mk bX
    have HC := Aside0.mk hC1
    have cV := hBx1.cell
    clear hBx1 hR bX hC1
    gi_wp2_with (first
      | (refine wpPartLdIn 18 rfl rfl 45 (.tmp 7) rfl _ rfl _ (TkA x) [] HX.out rfl Tryz.underlying45 rfl (by kernel_rfl) ?_)
      | (gi_at_builtin; refine R_appendIn k45 (w.heap.size + 1) rfl (.tmp 17) (.tmp 19) 22 45 (.agg #[(.int .i64 0), (.int .i64 0), (.int .i64 0), (.string ⟨#[]⟩), (.bool false), (.int .i64 0), (.int .i64 0), (.int .i64 0), (.bool false), (.bool false), (.string ⟨#[]⟩), (.int .i64 0)]) 104 rfl Tryz.underlying22 info45 rfl (by decide) (by omega) (.slice A2 pre.length c2) pre x [.int .i64 x.f0, .int .i64 x.f1.f0, .int .i64 x.f1.f1, .string x.f1.f2, .bool x.f1.f3, .int .i64 x.f1.f4, .int .i64 x.f2.f0.f0, .int .i64 x.f2.f0.f1, .bool x.f2.f1, .bool x.f2.f2, .string x.f3, .int .i64 x.f4] (fun k => k ≠ w.heap.size + 1) (fun _ => False) rfl rfl (k45_mkM _ _ _ x) (fun _ hk => hk.elim) (fun k hk => by have := blk_lt H5.out; omega) H6.out (Nat.le_of_lt (blk_lt H5.out)) (by omega) ?_; intro v1 V4 hR1 hg1 hat1; obtain ⟨A4, c4, rfl⟩ := Kd.R_slice hR1; have R1 := Aside0.mk hR1; have G1 := Aside0.mk hg1; have cB := fun (i : Nat) => blk_cell (blk_grown H5.out hg1 (Kd.R_away H6.out (fun _ hk => hk))) i; have fB := fun (i : Nat) => blk_frozen (blk_grown H5.out hg1 (Kd.R_away H6.out (fun _ hk => hk))) i; clear hR1 hg1 hat1 cV))
    have hBV : Boxed V4 (w.heap.size + 1) 22 (.slice A2 pre.length c2) := blk_grown H5.out G1.out (Kd.R_away H6.out (fun _ hk => hk))
    have he : (pre ++ [x]).length = pre.length + 1 := by simp
    have R2 := R1.out
    rw [he] at R2
    have hO := KeepsOthers.of_grownBy G1.out (fun j o hj ho => by
      obtain ⟨_, _, _, q', _, cells, hc⟩ := (Kd.R_bound H6.out).1 j hj
      rw [hc] at ho
      cases ho
      rfl)
    have hbw := ((Below.refl w.heap.size W).grown G1.out hB1.size (fun k e => by have := Kd.R_base H6.out k e; omega)).setCell (p := ⟨w.heap.size + 1, 0, none⟩) (Nat.le_succ _) (.slice A4 (pre.length + 1) c4)
    have hc4 : (V4.setCell ⟨w.heap.size + 1, 0, none⟩ (.slice A4 (pre.length + 1) c4)).heap[w.heap.size + 1 + 1]? = W.heap[w.heap.size + 1 + 1]? := (Below.heap_setCell V4 ⟨w.heap.size + 1, 0, none⟩ _ _ (by show w.heap.size + 1 + 1 ≠ w.heap.size + 1; omega)).trans (G1.out.block _ (blk_lt HC.out) (Kd.R_ne H6.out HC.out (by decide)))
    have hg4 : (V4.setCell ⟨w.heap.size + 1, 0, none⟩ (.slice A4 (pre.length + 1) c4)).heap[w.heap.size]? = W.heap[w.heap.size]? := (Below.heap_setCell V4 ⟨w.heap.size + 1, 0, none⟩ _ _ (by show w.heap.size ≠ w.heap.size + 1; omega)).trans (G1.out.block _ (by omega) (fun e => by have := Kd.R_base H6.out _ e.symm; omega))
    exact ⟨(hO.trans (KeepsOthers.setCell _ _ _)).from _, ⟨hbw, hg4, hc4⟩, ⟨_, hBV.set _, Kd.R_far R2 (fun k hk => hk) _⟩, hB1.trans hbw, Nat.le_trans hS1 hbw.size, hc4.trans HC.out⟩
  case done =>
    rintro D xs o W hD ⟨i, e, rfl, hS⟩ ⟨hH, hB1, hS1, hC1⟩ hG hKd
    have hL : scanL tx = scanF (tx.length + 1) 0 tx := by unfold scanL; rw [if_neg (by have := HLn.out; omega)]
    rw [HS.out] at hG
    have cG := fun (i : Nat) => blk_cell hG i
    rcases hS with ⟨he, hS⟩ | ⟨he, k, hk, hS⟩
    · subst he
      obtain ⟨v, hBx1, hR⟩ := hH
      obtain ⟨A2, c2, rfl, hle, _⟩ := Kd.R_reads hR
      have cV := hBx1.cell
      have H5 := Aside0.mk hBx1
      have H6 := Aside0.mk hR
      have hxl : xs.length ≤ 2000 := by
        have h1 := scanF_len (tx.length + 1) 0 tx
        have := HLn.out
        rw [hS] at h1
        simp only [List.length_append, List.length_singleton] at h1
        omega
      clear hBx1 hR
      gi_wp2_with (first
        | (gi_at_builtin; refine R_appendIn k45 (w.heap.size + 1) rfl (.tmp 34) (.tmp 38) 22 45 (.agg #[(.int .i64 0), (.int .i64 0), (.int .i64 0), (.string ⟨#[]⟩), (.bool false), (.int .i64 0), (.int .i64 0), (.int .i64 0), (.bool false), (.bool false), (.string ⟨#[]⟩), (.int .i64 0)]) 104 rfl Tryz.underlying22 info45 rfl (by decide) (by omega) (.slice A2 xs.length c2) xs (tkAt tkZ (s.size : Int)) [.int .i64 0, .int .i64 0, .int .i64 0, .string ⟨#[]⟩, .bool false, .int .i64 0, .int .i64 0, .int .i64 0, .bool false, .bool false, .string ⟨#[]⟩, .int .i64 (s.size : Int)] (fun k => k ≠ w.heap.size + 1) (fun _ => False) rfl rfl (k45_mkM _ _ _ (tkAt tkZ (s.size : Int))) (fun _ hk => hk.elim) (fun k hk => by have := blk_lt H5.out; omega) H6.out (Nat.le_of_lt (blk_lt H5.out)) (by omega) ?_; intro v1 V4 hR1 hg1 hat1; have R1 := Aside0.mk hR1; have G1 := Aside0.mk hg1; clear hR1 hg1 hat1 cV cG))
      have hD4 : V4.heap[D]? = some (.deferred (some [])) := (G1.out.block D (Array.getElem?_eq_some_iff.1 hKd).1 (fun e => by
        obtain ⟨_, _, _, q', _, cells, hc⟩ := (Kd.R_bound H6.out).1 D e.symm
        rw [hKd] at hc
        cases hc)).trans hKd
      refine ⟨by simp, .inl ⟨_, _, rfl, run_takeDeferred hD4, ?_⟩⟩
      refine ⟨_, results_tmp3 rfl _ _ _, _, by rw [hL, hS]; rfl, ?_, ?_⟩
      · rw [hL, hS]
        have hs2 : s.size = tx.length := by rw [← HS.out]; exact bl_size tx
        rw [hs2] at R1
        exact Kd.R_mono (Kd.R_lower (Kd.R_grown (Kd.R_bound R1.out) (grownBy_putObj' V4 D (.deferred none)) (fun k hk e => by
          obtain ⟨_, _, _, q', _, cells, hc⟩ := hk
          cases e
          rw [hD4] at hc
          cases hc)) (Nat.le_succ _)) (fun _ _ => trivial)
      · exact (hB1.trans ((Below.refl w.heap.size W).grown G1.out hB1.size (fun k e => by have := Kd.R_base H6.out k e; omega))).trans ⟨rfl, rfl, rfl, by simp, fun k hk => World.putObj_heap_other (by omega)⟩
    · have n1 : (e != 0) = true := by simpa using he
      have n2 : (e == 0) = false := beq_eq_false_iff_ne.2 he
      gi_wp2
      refine noPanic ?_
      have hS9 := (show (fun w' => w'.heap[w.heap.size]? = some (.cells #[.string s, .int .i64 i, .int .i64 e] 48 (0, 0)) ∧ Below w.heap.size w w' ∧ w'.heap[D]? = some (.deferred (some []))) (W.drew) from ⟨blk_drew hG, below_drew1 hB1, blkO_drew hKd⟩)
      refine start_ (n := 11) (S := fun w' => w'.heap[w.heap.size]? = some (.cells #[.string s, .int .i64 i, .int .i64 e] 48 (0, 0)) ∧ Below w.heap.size w w' ∧ w'.heap[D]? = some (.deferred (some []))) (ds := []) #[false, false, false, false, false, false, false, false, false, false, false] (by kernel_rfl) rfl rfl hS9 (fun hHeld => ?_)
      refine with_tabW lscn9.tab9 lscn9.bits9 (fun HT_ HW_ => ?_)
      refine pureI 0 (some 26) HT_ rfl rfl (by kernel_rfl) (by rfl) (fun _ => by go_simp; with_reducible rfl) (by simp only [Act.put, List.setIfInBounds_toArray, List.set_cons_zero, List.set_cons_succ]; rfl) ?_
      refine pureI 1 (some 27) HT_ rfl rfl (by kernel_rfl) (by rfl) (fun _ => by go_simp; with_reducible rfl) (by simp only [Act.put, List.setIfInBounds_toArray, List.set_cons_zero, List.set_cons_succ]; rfl) ?_
      refine pureI 2 (some 28) HT_ rfl rfl (by kernel_rfl) (by rfl) (fun _ => by go_simp; with_reducible rfl) (by simp only [Act.put, List.setIfInBounds_toArray, List.set_cons_zero, List.set_cons_succ]; rfl) ?_
      refine pureI 4 (some 30) HT_ rfl rfl (by kernel_rfl) (by rfl) (fun _ => by go_simp; with_reducible rfl) (by simp only [Act.put, List.setIfInBounds_toArray, List.set_cons_zero, List.set_cons_succ]; rfl) ?_
      refine pureI 5 (some 31) HT_ rfl rfl (by kernel_rfl) (by rfl) (fun _ => by go_simp; with_reducible rfl) (by simp only [Act.put, List.setIfInBounds_toArray, List.set_cons_zero, List.set_cons_succ]; rfl) ?_
      refine pureI 6 (some 32) HT_ rfl rfl (by kernel_rfl) (by rfl) (fun _ => by go_simp; with_reducible rfl) (by simp only [Act.put, List.setIfInBounds_toArray, List.set_cons_zero, List.set_cons_succ]; rfl) ?_
      refine pureI 8 (some 2) HT_ rfl rfl (by kernel_rfl) (by rfl) (fun _ => by go_simp; with_reducible rfl) (by simp only [Act.put, List.setIfInBounds_toArray, List.set_cons_zero, List.set_cons_succ]; rfl) ?_
      refine takeI 3 (some 29) HT_ HW_ rfl rfl (by kernel_rfl) (by rfl) (by rintro w' ⟨s1, s2, s3⟩; have q0 := (blk_cell s1 1).trans (show _ = some (Value.int .i64 i) from rfl); have q1 := (blk_cell s1 2).trans (show _ = some (Value.int .i64 e) from rfl); go_simp; with_reducible rfl) hHeld (by simp only [Act.put, List.setIfInBounds_toArray, List.set_cons_zero, List.set_cons_succ]; rfl) ?_
      refine pureI 9 (some 3) HT_ rfl rfl (by kernel_rfl) (by rfl) (fun _ => by go_simp; with_reducible rfl) (by simp only [Act.put, List.setIfInBounds_toArray, List.set_cons_zero, List.set_cons_succ]; rfl) ?_
      refine takeI 7 (some 33) HT_ HW_ rfl rfl (by kernel_rfl) (by rfl) (by rintro w' ⟨s1, s2, s3⟩; have q0 := (blk_cell s1 1).trans (show _ = some (Value.int .i64 i) from rfl); have q1 := (blk_cell s1 2).trans (show _ = some (Value.int .i64 e) from rfl); go_simp; with_reducible rfl) hHeld (by simp only [Act.put, List.setIfInBounds_toArray, List.set_cons_zero, List.set_cons_succ]; rfl) ?_
      refine pureI 10 (some 4) HT_ rfl rfl (by kernel_rfl) (by rfl) (fun _ => by go_simp; with_reducible rfl) (by simp only [Act.put, List.setIfInBounds_toArray, List.set_cons_zero, List.set_cons_succ]; rfl) ?_
      refine done_ (done_of HT_.out (by kernel_rfl)) ?_
      have H9 := Aside0.mk hHeld
      clear hHeld hS9
      dsimp only
      gi_wp2
      refine ⟨by simp, .inl ⟨_, _, rfl, run_takeDeferred H9.out.2.2, ?_⟩⟩
      refine ⟨_, results_tmp3 rfl _ _ _, _, by rw [hL, hS]; rfl, ?_, ?_⟩
      · rw [hL, hS]
        exact Kd.R_nil _ _ _ _ _
      · exact H9.out.2.1.trans ⟨rfl, rfl, rfl, by simp, fun k hk => World.putObj_heap_other (by omega)⟩
theorem scan_calls (tx : List UInt8) (w : World) (hL0 : Aside0 (LaidW w)) :
    Calls Tryz.prog 8 #[.string (bl tx)] w fun e w' => ∃ v, e = .returned (.tuple #[v, .int .i64 ((scanL tx).2.1 : Nat), .int .i64 (scanL tx).2.2]) ∧ Kd.R k45 45 w' w.heap.size (fun _ => True) v (scanL tx).1 ∧ Below w.heap.size w w' := by
  by_cases h : tx.length ≤ 1024
  · exact callsIn_wide.1 (scan_in tx w hL0 h)
  · refine (callsIn_wide.1 (scan_big tx w (by omega))).mono ?_
    rintro e w' ⟨rfl, hb⟩
    have hL : scanL tx = ([], 0, 7) := by unfold scanL; rw [if_pos (by omega)]
    exact ⟨_, by rw [hL]; rfl, by rw [hL]; exact Kd.R_nil _ _ _ _ _, hb⟩
end Go.Proofs.YtmppnobldhhpjaaGreatDoor.Pr
end
section
namespace Go.Proofs.YtmppnobldhhpjaaGreatDoor.Pr
set_option linter.unusedVariables false
set_option linter.unusedSimpArgs false
open Go.RowKit Go.Proofs.YtmppnobldhhpjaaGreatDoorW.PrintWords Go.Proofs.YtmppnobldhhpjaaGreatDoorW.PrintLast Go.Proofs.YtmppnobldhhpjaaGreatDoorW.PrintMore
def CellsAt (w : World) (p : Addr) (cs : Array Value) : Prop := ∀ (j : Nat) (v : Value), cs.toList[j]? = some v → w.cell? (p.add j) = some v
theorem CellsAt.below {w w1 : World} {p : Addr} {cs : Array Value} (h : CellsAt w p cs) (hb : Below w.heap.size w w1) : CellsAt w1 p cs := fun j v hv => (hb.cell (World.block_lt_of_cell? _ _ (h j v hv))).trans (h j v hv)
theorem add_add_ (p : Addr) (a b : Nat) : (p.add a).add b = p.add (a + b) := by
  unfold Addr.add
  by_cases ha : a = 0
  · subst ha; simp
  · by_cases hb : b = 0
    · subst hb; simp
    · simp [ha, hb, Nat.add_assoc]
theorem add_0 (p : Addr) : p.add 0 = p := by
  unfold Addr.add
  simp
theorem tok_at {w : World} {A : Option Addr} {n : Nat} {xs : List Tk} (h : Kd.C k45 w A n xs) (i : Nat) (h1 : i < n) : ∃ ad, A = some ad ∧ CellsAt w (ad.add (i * 12)) (TkA (rd_T45 xs (i : Int))) := by
  obtain ⟨ad, c, e, _, hK, hc⟩ := Kd.C_get h z45 (i : Int) (by omega) (by omega)
  obtain rfl := k45_open hK
  refine ⟨ad, e, fun j u hu => ?_⟩
  rw [add_add_]
  exact hc j u hu
def tx0 : List UInt8 := [83, 85, 77, 40, 65, 49, 58, 36, 66, 36, 50, 41, 42, 50]
def tx1 : List UInt8 := [34, 97, 34, 34, 98, 34]
def tx2 : List UInt8 := [32, 49, 46, 50, 46, 51]
def tx3 : List UInt8 := [49, 43, 36, 65, 40, 49, 41]
theorem tx0_len : (scanL tx0).1.length = 9 ∧ (scanL tx0).2 = (0, 0) := by decide +kernel
theorem tx1_len : (scanL tx1).1.length = 2 ∧ (scanL tx1).2 = (0, 0) := by decide +kernel
theorem tx2_len : (scanL tx2).2 = (1, 5) := by decide +kernel
theorem tx3_len : (scanL tx3).2 = (2, 5) := by decide +kernel
theorem tx0_0 : rd_T45 (scanL tx0).1 ((0 : Nat) : Int) = ⟨3, vlZ, ceZ, bl [83, 85, 77], 0⟩ := by kernel_rfl
theorem tx0_4 : rd_T45 (scanL tx0).1 ((4 : Nat) : Int) = ⟨2, vlZ, ⟨⟨2, 2⟩, true, true⟩, bl [], 7⟩ := by kernel_rfl
theorem tx0_8 : rd_T45 (scanL tx0).1 ((8 : Nat) : Int) = ⟨0, vlZ, ceZ, bl [], 14⟩ := by kernel_rfl
theorem tx1_0 : rd_T45 (scanL tx1).1 ((0 : Nat) : Int) = ⟨1, ⟨2, 0, bl [97, 34, 98], false, 0⟩, ceZ, bl [], 0⟩ := by kernel_rfl
theorem live0 (w : World) (hL0 : Aside0 (LaidW w)) : Calls Tryz.prog 8 #[.string ⟨#[83, 85, 77, 40, 65, 49, 58, 36, 66, 36, 50, 41, 42, 50]⟩] w fun e w' => ∃ ad c, e = .returned (.tuple #[.slice (some ad) 9 c, .int .i64 0, .int .i64 0]) ∧ CellsAt w' ad (TkA ⟨3, vlZ, ceZ, bl [83, 85, 77], 0⟩) ∧ CellsAt w' (ad.add 48) (TkA ⟨2, vlZ, ⟨⟨2, 2⟩, true, true⟩, bl [], 7⟩) ∧ CellsAt w' (ad.add 96) (TkA ⟨0, vlZ, ceZ, bl [], 14⟩) ∧ Below w.heap.size w w' := by
  refine (show Calls Tryz.prog 8 #[.string ⟨#[83, 85, 77, 40, 65, 49, 58, 36, 66, 36, 50, 41, 42, 50]⟩] w _ from scan_calls tx0 w hL0).mono ?_
  rintro e w' ⟨v, rfl, hR, hb⟩
  obtain ⟨A, c, rfl, _, hC⟩ := Kd.R_reads hR
  obtain ⟨h1, h2⟩ := tx0_len
  rw [h1] at hC ⊢
  rw [h2]
  obtain ⟨ad, rfl, c0⟩ := tok_at hC 0 (by decide)
  obtain ⟨ad', e4, c4⟩ := tok_at hC 4 (by decide)
  cases e4
  obtain ⟨ad'', e8, c8⟩ := tok_at hC 8 (by decide)
  cases e8
  rw [tx0_0, Nat.zero_mul, add_0] at c0
  rw [tx0_4] at c4
  rw [tx0_8] at c8
  exact ⟨ad, c, rfl, c0, c4, c8, hb⟩
theorem live1 (w : World) (hL0 : Aside0 (LaidW w)) : Calls Tryz.prog 8 #[.string ⟨#[34, 97, 34, 34, 98, 34]⟩] w fun e w' => ∃ ad c, e = .returned (.tuple #[.slice (some ad) 2 c, .int .i64 0, .int .i64 0]) ∧ CellsAt w' ad (TkA ⟨1, ⟨2, 0, bl [97, 34, 98], false, 0⟩, ceZ, bl [], 0⟩) ∧ Below w.heap.size w w' := by
  refine (show Calls Tryz.prog 8 #[.string ⟨#[34, 97, 34, 34, 98, 34]⟩] w _ from scan_calls tx1 w hL0).mono ?_
  rintro e w' ⟨v, rfl, hR, hb⟩
  obtain ⟨A, c, rfl, _, hC⟩ := Kd.R_reads hR
  obtain ⟨h1, h2⟩ := tx1_len
  rw [h1] at hC ⊢
  rw [h2]
  obtain ⟨ad, rfl, c0⟩ := tok_at hC 0 (by decide)
  rw [tx1_0, Nat.zero_mul, add_0] at c0
  exact ⟨ad, c, rfl, c0, hb⟩
theorem live2 (w : World) (hL0 : Aside0 (LaidW w)) : Calls Tryz.prog 8 #[.string ⟨#[32, 49, 46, 50, 46, 51]⟩] w fun e w' => (∃ v, e = .returned (.tuple #[v, .int .i64 1, .int .i64 5])) ∧ Below w.heap.size w w' := by
  refine (show Calls Tryz.prog 8 #[.string ⟨#[32, 49, 46, 50, 46, 51]⟩] w _ from scan_calls tx2 w hL0).mono ?_
  rintro e w' ⟨v, rfl, hR, hb⟩
  rw [tx2_len]
  exact ⟨⟨v, rfl⟩, hb⟩
theorem live3 (w : World) (hL0 : Aside0 (LaidW w)) : Calls Tryz.prog 8 #[.string ⟨#[49, 43, 36, 65, 40, 49, 41]⟩] w fun e w' => (∃ v, e = .returned (.tuple #[v, .int .i64 2, .int .i64 5])) ∧ Below w.heap.size w w' := by
  refine (show Calls Tryz.prog 8 #[.string ⟨#[49, 43, 36, 65, 40, 49, 41]⟩] w _ from scan_calls tx3 w hL0).mono ?_
  rintro e w' ⟨v, rfl, hR, hb⟩
  rw [tx3_len]
  exact ⟨⟨v, rfl⟩, hb⟩
set_option maxHeartbeats 8000000 in
set_option maxRecDepth 100000 in
theorem lives_calls (w : World) (hL0 : Aside0 (LaidW w)) : Calls Tryz.prog 11 #[] w fun e w' => e = .returned (.bool true) ∧ Below w.heap.size w w' := by
  have HB0 := Aside0.mk (Below.refl w.heap.size w)
  go_enter Tryz.func11, Tryz.ntmps11
  go_wp2_with (first
    | (go_at_call 8; refine (live0 _ (LaidAt hL0 HB0.out)).mono ?_; rintro e w1 ⟨ad0, c0, rfl, k0, k4, k8, hb⟩; have HB1 := Aside0.mk (below_step HB0.out hb); have K0 := Aside0.mk k0; have K4 := Aside0.mk k4; have K8 := Aside0.mk k8; clear k0 k4 k8 hb HB0)
    | (go_at_call 8; refine (live1 _ (LaidAt hL0 HB1.out)).mono ?_; rintro e w2 ⟨ad1, c1, rfl, m0, hb⟩; have HB2 := Aside0.mk (below_step HB1.out hb); replace K0 := Aside0.mk (K0.out.below hb); replace K4 := Aside0.mk (K4.out.below hb); replace K8 := Aside0.mk (K8.out.below hb); have M0 := Aside0.mk m0; clear m0 hb HB1)
    | (go_at_call 8; refine (live2 _ (LaidAt hL0 HB2.out)).mono ?_; rintro e w3 ⟨⟨v2, rfl⟩, hb⟩; have HB3 := Aside0.mk (below_step HB2.out hb); replace K0 := Aside0.mk (K0.out.below hb); replace K4 := Aside0.mk (K4.out.below hb); replace K8 := Aside0.mk (K8.out.below hb); replace M0 := Aside0.mk (M0.out.below hb); clear hb HB2)
    | (go_at_call 8; refine (live3 _ (LaidAt hL0 HB3.out)).mono ?_; rintro e w4 ⟨⟨v3, rfl⟩, hb⟩; have HB4 := Aside0.mk (below_step HB3.out hb); replace K0 := Aside0.mk (K0.out.below hb); replace K4 := Aside0.mk (K4.out.below hb); replace K8 := Aside0.mk (K8.out.below hb); replace M0 := Aside0.mk (M0.out.below hb); have m3 := (show w4.cell? ⟨ad1.block, ad1.off + 3, none⟩ = some (.string ⟨#[97, 34, 98]⟩) from M0.out 3 _ rfl); have p0_0 := (show w4.cell? ad0 = some (.int .i64 3) from K0.out 0 _ rfl); have p0_1 := (show w4.cell? ⟨ad0.block, ad0.off + 1, none⟩ = some (.int .i64 0) from K0.out 1 _ rfl); have p0_2 := (show w4.cell? ⟨ad0.block, ad0.off + 2, none⟩ = some (.int .i64 0) from K0.out 2 _ rfl); have p0_3 := (show w4.cell? ⟨ad0.block, ad0.off + 3, none⟩ = some (.string ⟨#[]⟩) from K0.out 3 _ rfl); have p0_4 := (show w4.cell? ⟨ad0.block, ad0.off + 4, none⟩ = some (.bool false) from K0.out 4 _ rfl); have p0_5 := (show w4.cell? ⟨ad0.block, ad0.off + 5, none⟩ = some (.int .i64 0) from K0.out 5 _ rfl); have p0_6 := (show w4.cell? ⟨ad0.block, ad0.off + 6, none⟩ = some (.int .i64 0) from K0.out 6 _ rfl); have p0_7 := (show w4.cell? ⟨ad0.block, ad0.off + 7, none⟩ = some (.int .i64 0) from K0.out 7 _ rfl); have p0_8 := (show w4.cell? ⟨ad0.block, ad0.off + 8, none⟩ = some (.bool false) from K0.out 8 _ rfl); have p0_9 := (show w4.cell? ⟨ad0.block, ad0.off + 9, none⟩ = some (.bool false) from K0.out 9 _ rfl); have p0_10 := (show w4.cell? ⟨ad0.block, ad0.off + 10, none⟩ = some (.string ⟨#[83, 85, 77]⟩) from K0.out 10 _ rfl); have p0_11 := (show w4.cell? ⟨ad0.block, ad0.off + 11, none⟩ = some (.int .i64 0) from K0.out 11 _ rfl); have p4_0 := (show w4.cell? ⟨ad0.block, ad0.off + 48, none⟩ = some (.int .i64 2) from K4.out 0 _ rfl); have p4_1 := (show w4.cell? ⟨ad0.block, ad0.off + 48 + 1, none⟩ = some (.int .i64 0) from K4.out 1 _ rfl); have p4_2 := (show w4.cell? ⟨ad0.block, ad0.off + 48 + 2, none⟩ = some (.int .i64 0) from K4.out 2 _ rfl); have p4_3 := (show w4.cell? ⟨ad0.block, ad0.off + 48 + 3, none⟩ = some (.string ⟨#[]⟩) from K4.out 3 _ rfl); have p4_4 := (show w4.cell? ⟨ad0.block, ad0.off + 48 + 4, none⟩ = some (.bool false) from K4.out 4 _ rfl); have p4_5 := (show w4.cell? ⟨ad0.block, ad0.off + 48 + 5, none⟩ = some (.int .i64 0) from K4.out 5 _ rfl); have p4_6 := (show w4.cell? ⟨ad0.block, ad0.off + 48 + 6, none⟩ = some (.int .i64 2) from K4.out 6 _ rfl); have p4_7 := (show w4.cell? ⟨ad0.block, ad0.off + 48 + 7, none⟩ = some (.int .i64 2) from K4.out 7 _ rfl); have p4_8 := (show w4.cell? ⟨ad0.block, ad0.off + 48 + 8, none⟩ = some (.bool true) from K4.out 8 _ rfl); have p4_9 := (show w4.cell? ⟨ad0.block, ad0.off + 48 + 9, none⟩ = some (.bool true) from K4.out 9 _ rfl); have p4_10 := (show w4.cell? ⟨ad0.block, ad0.off + 48 + 10, none⟩ = some (.string ⟨#[]⟩) from K4.out 10 _ rfl); have p4_11 := (show w4.cell? ⟨ad0.block, ad0.off + 48 + 11, none⟩ = some (.int .i64 7) from K4.out 11 _ rfl); have p8_0 := (show w4.cell? ⟨ad0.block, ad0.off + 96, none⟩ = some (.int .i64 0) from K8.out 0 _ rfl); have p8_1 := (show w4.cell? ⟨ad0.block, ad0.off + 96 + 1, none⟩ = some (.int .i64 0) from K8.out 1 _ rfl); have p8_2 := (show w4.cell? ⟨ad0.block, ad0.off + 96 + 2, none⟩ = some (.int .i64 0) from K8.out 2 _ rfl); have p8_3 := (show w4.cell? ⟨ad0.block, ad0.off + 96 + 3, none⟩ = some (.string ⟨#[]⟩) from K8.out 3 _ rfl); have p8_4 := (show w4.cell? ⟨ad0.block, ad0.off + 96 + 4, none⟩ = some (.bool false) from K8.out 4 _ rfl); have p8_5 := (show w4.cell? ⟨ad0.block, ad0.off + 96 + 5, none⟩ = some (.int .i64 0) from K8.out 5 _ rfl); have p8_6 := (show w4.cell? ⟨ad0.block, ad0.off + 96 + 6, none⟩ = some (.int .i64 0) from K8.out 6 _ rfl); have p8_7 := (show w4.cell? ⟨ad0.block, ad0.off + 96 + 7, none⟩ = some (.int .i64 0) from K8.out 7 _ rfl); have p8_8 := (show w4.cell? ⟨ad0.block, ad0.off + 96 + 8, none⟩ = some (.bool false) from K8.out 8 _ rfl); have p8_9 := (show w4.cell? ⟨ad0.block, ad0.off + 96 + 9, none⟩ = some (.bool false) from K8.out 9 _ rfl); have p8_10 := (show w4.cell? ⟨ad0.block, ad0.off + 96 + 10, none⟩ = some (.string ⟨#[]⟩) from K8.out 10 _ rfl); have p8_11 := (show w4.cell? ⟨ad0.block, ad0.off + 96 + 11, none⟩ = some (.int .i64 14) from K8.out 11 _ rfl); clear hb HB3))
  go_ret
  exact ⟨rfl, HB4.out⟩
end Go.Proofs.YtmppnobldhhpjaaGreatDoor.Pr
end
section
namespace Go.Proofs.YtmppnobldhhpjaaGreatDoor.Pr
set_option linter.unusedVariables false
set_option linter.unusedSimpArgs false
open Go.RowKit Go.Proofs.YtmppnobldhhpjaaGreatDoorW.PrintWords Go.Proofs.YtmppnobldhhpjaaGreatDoorW.PrintLast Go.Proofs.YtmppnobldhhpjaaGreatDoorW.PrintMore
theorem same_refl (L : List Tk) (hl : L.length ≤ 1000000) : ∀ (k i : Nat), L.length - i < k → i ≤ L.length → foolscapref07_Same.l0 k L L (i : Int) = some true
  | 0, i, h, _ => by omega
  | k + 1, i, h, hi => by
    unfold foolscapref07_Same.l0
    by_cases hlt : i < L.length
    · rw [if_pos (by omega), if_pos (by omega), if_pos (by omega), if_neg (by simp), show wrap64 ((i : Int) + 1) = ((i + 1 : Nat) : Int) by unfold wrap64; omega]
      exact same_refl L hl k (i + 1) (by omega) (by omega)
    · rw [if_neg (by omega)]
theorem scanL_len (l : List UInt8) : (scanL l).1.length ≤ 1025 := by
  unfold scanL
  split
  · simp
  · have := scanF_len (l.length + 1) 0 l
    omega
set_option maxHeartbeats 4000000 in
set_option maxRecDepth 100000 in
theorem scans_calls (s : ByteArray) (w : World) (hL0 : Aside0 (LaidW w)) : Calls Tryz.prog 3 #[.string s] w fun e w' => e = .returned (.bool true) ∧ Below w.heap.size w w' := by
  obtain ⟨tx, rfl⟩ : ∃ tx, s = bl tx := ⟨s.data.toList, (bl_of s).symm⟩
  have HB0 := Aside0.mk (Below.refl w.heap.size w)
  have HA := Aside0.mk (fun W (h : Aside0 (LaidW W)) => scan_calls tx W h)
  have HR := Aside0.mk (fun W => foolscapref07_Scan.calls 4000 (bl tx) _ _ _ W (ref07_Scan_eq tx 4000 (Nat.le_refl _)))
  have hl := scanL_len tx
  obtain ⟨⟨L, at_, er⟩, hL⟩ : ∃ x, scanL tx = x := ⟨_, rfl⟩
  rw [hL] at HA HR hl
  have HS := Aside0.mk (show foolscapref07_Same.f 2000 L L = some true by
    unfold foolscapref07_Same.f
    rw [if_pos rfl]
    exact same_refl L (by simp only at hl; omega) 2000 0 (by simp only at hl; omega) (Nat.zero_le _))
  clear hL hl
  generalize bl tx = s at HA HR
  simp only at HA HR
  go_enter Tryz.func3, Tryz.ntmps3
  go_wp2_with (first
    | (go_at_call 8; refine (HA.out _ (LaidAt hL0 HB0.out)).mono ?_; rintro e w1 ⟨v1, rfl, hR, hb⟩; obtain ⟨A1, c1, rfl, hle1, hC⟩ := Kd.R_reads hR; have HB1 := Aside0.mk (below_step HB0.out hb); have HC1 := Aside0.mk hC; clear hb hC hR HB0)
    | (go_at_call 9; refine (HR.out _).mono ?_; rintro e w2 ⟨v2, rfl, hR, hb⟩; obtain ⟨A2, c2, rfl, hle2, hC⟩ := Kd.R_reads hR; have HB2 := Aside0.mk (below_step HB1.out hb); have HC2 := Aside0.mk hC; replace HC1 := Aside0.mk (Kd.C_below HC1.out hb); clear hb hC hR HB1)
    | (go_at_call 10; refine (foolscapref07_Same.calls 2000 A1 c1 L A2 c2 L true _ HC1.out hle1 HC2.out hle2 HS.out).mono ?_; rintro e w3 ⟨rfl, hd⟩; have HB3 := Aside0.mk (below_step HB2.out (drawn_below hd)); clear hd HB2)
    | (go_at_call 11; refine (lives_calls _ (LaidAt hL0 HB3.out)).mono ?_; rintro e w4 ⟨rfl, hb⟩; have HB4 := Aside0.mk (below_step HB3.out hb); clear hb HB3))
  go_ret
  exact ⟨rfl, HB4.out⟩
end Go.Proofs.YtmppnobldhhpjaaGreatDoor.Pr
end
section
namespace Go.Proofs.YtmppnobldhhpjaaGreatDoor.Pr
set_option linter.unusedVariables false
open Go.RowKit Go.Proofs.YtmppnobldhhpjaaGreatDoorW.PrintWords Go.Proofs.YtmppnobldhhpjaaGreatDoorW.PrintMore
theorem LexScans_walk (a0 : ByteArray) (w : World) (w0 : a0.size ≤ 140737488351232) (hL : Aside0 (LaidW w)) :
    Calls Tryz.prog 3 #[.string a0] w fun e w' => e = .returned (.bool true) ∧ Below w.heap.size w w' := scans_calls a0 w hL
end Go.Proofs.YtmppnobldhhpjaaGreatDoor.Pr
end
section
namespace Go.Proofs.YtmppnobldhhpjaaGreatDoor.Pr
set_option linter.unusedVariables false
set_option linter.unusedSimpArgs false
open Go.RowKit Go.Proofs.YtmppnobldhhpjaaGreatDoorW.PrintWords Go.Proofs.YtmppnobldhhpjaaGreatDoorW.PrintLast Go.Proofs.YtmppnobldhhpjaaGreatDoorW.PrintMore
theorem conv1 (x : UInt8) (W : World) : (convert 31 9 (.slice (some ⟨W.heap.size, 0, none⟩) 1 1)).run Tryz.prog (W.alloc (.cells #[.int .u8 (x.toNat : Int)] 5)) = .ok (.string (bl [x])) (W.alloc (.cells #[.int .u8 (x.toNat : Int)] 5)) :=
  run_convert_bytes_back _ _ _ 5 ⟨W.heap.size, 0, none⟩ 1 [x] Tryz.underlying31 Tryz.underlying5 Tryz.underlying9 (Lib.bytes_of_row (newBlk W _) rfl)
set_option maxHeartbeats 4000000 in
set_option maxRecDepth 100000 in
theorem pairs_calls (s t : ByteArray) (x : UInt8) (w : World) (hs : s.size ≤ 140737488351232) (ht : t.size ≤ 140737488351232) (hL0 : Aside0 (LaidW w)) : Calls Tryz.prog 4 #[.string s, .int .u8 (x.toNat : Int), .string t] w fun e w' => e = .returned (.bool true) ∧ Below w.heap.size w w' := by
  have hcv := conv1 x w
  have HP := Aside0.mk (fun (u : ByteArray) (W : World) (h : Aside0 (LaidW W)) => scans_calls u W h)
  have hy : (bl [x]).size = 1 := bl_size _
  generalize bl [x] = y at hcv hy
  have e1 : ¬9223372036854775807 < s.size + y.size := by omega
  have e2 : ¬9223372036854775807 < s.size + y.size + t.size := by omega
  clear hs ht hy
  go_enter Tryz.func4, Tryz.ntmps4
  go_wp2_with (first
    | (go_at_call 3; refine (HP.out _ _ (LaidAt hL0 (bel1 w _))).mono ?_; rintro e w1 ⟨rfl, hb⟩))
  go_ret
  exact ⟨rfl, below_step (bel1 w _) hb⟩
end Go.Proofs.YtmppnobldhhpjaaGreatDoor.Pr
end
section
namespace Go.Proofs.YtmppnobldhhpjaaGreatDoor.Pr
set_option linter.unusedVariables false
open Go.RowKit Go.Proofs.YtmppnobldhhpjaaGreatDoorW.PrintWords Go.Proofs.YtmppnobldhhpjaaGreatDoorW.PrintMore
theorem u8_wf {a : Int} (h : (Lit.int .u8 a).wf = true) : ∃ x : UInt8, a = (x.toNat : Int) := by
  simp only [Lit.wf, Bool.and_eq_true, decide_eq_true_eq] at h
  have h0 : IntKind.u8.min = 0 := by decide
  have h1 : IntKind.u8.max = 255 := by decide
  rw [h0, h1] at h
  refine ⟨UInt8.ofNat a.toNat, ?_⟩
  simp
  omega
theorem LexPairs_walk (a0 : ByteArray) (a1 : Int) (a2 : ByteArray) (w : World) (w0 : a0.size ≤ 140737488351232) (w1 : (Lit.int .u8 a1).wf = true) (w2 : a2.size ≤ 140737488351232) (hL : Aside0 (LaidW w)) :
    Calls Tryz.prog 4 #[.string a0, .int .u8 a1, .string a2] w fun e w' => e = .returned (.bool true) ∧ Below w.heap.size w w' := by
  obtain ⟨x, rfl⟩ := u8_wf w1
  exact pairs_calls a0 a2 x w w0 w2 hL
end Go.Proofs.YtmppnobldhhpjaaGreatDoor.Pr
end
