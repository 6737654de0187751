/-
  Lemmas for the law LexScansLexPairs.
-/
import Derived.Test.YtmppnobldhhpjaaGreatDoorSLexScansLexPairs34
import Derived.Test.YtmppnobldhhpjaaGreatDoorSLexScansLexPairs35
import Derived.Sort.LoopGhostIn
section
namespace Go.Proofs.YtmppnobldhhpjaaGreatDoor.Pr
set_option linter.unusedVariables false
set_option linter.unusedSimpArgs false
open Go.RowKit Go.Proofs.YtmppnobldhhpjaaGreatDoorW.PrintWords Go.Proofs.YtmppnobldhhpjaaGreatDoorW.PrintLast Go.Proofs.YtmppnobldhhpjaaGreatDoorW.PrintMore
attribute [local go_sem] Oper.semAt_some
def ltok0.T0 : Bool × List (List Nat × List Nat) := (true, [([], []), ([0], [0]), ([1], [1]), ([2], [2]), ([], []), ([4], [4]), ([5], [5]), ([6], [6]), ([7], [7]), ([3, 8], [3, 8])])
def ltok0.B0 : List Nat := [0, 1, 3, 7, 0, 16, 48, 112, 240, 511]
theorem ltok0.tab0 : rtab .any (opsOf Tryz.f16 0) = ltok0.T0 := by kernel_rfl
theorem ltok0.bits0 : waitsOk ltok0.T0.2 ltok0.B0 = true := by kernel_rfl
def ltok1.T1 : Bool × List (List Nat × List Nat) := (true, [([], []), ([0], [0]), ([1], [1]), ([2], [2]), ([], []), ([4], [4]), ([5], [5]), ([6], [6]), ([3, 7], [3, 7]), ([8], [8])])
def ltok1.B1 : List Nat := [0, 1, 3, 7, 0, 16, 48, 112, 255, 511]
theorem ltok1.tab1 : rtab .any (opsOf Tryz.f16 1) = ltok1.T1 := by kernel_rfl
theorem ltok1.bits1 : waitsOk ltok1.T1.2 ltok1.B1 = true := by kernel_rfl
section
variable {F : Fence} {n : Nat} {P : Program} {ops : Array Oper} {rest : List Oper} {o : Oper} {a : Act} {w : World} {Q : Exit → Act → World → Prop}
theorem wpPartLdIn (N : Tmp) (hN : o.dst = some N) (hgd : o.guard = none) (ty : TypeId) (x : Operand) (ho : o.op = .load ty x)
    (g : Nat) (hx : a.eval x = .pointer (some ⟨g, 0, none⟩)) {t : TypeId} {old : Array Value} {fr : Nat × Nat} (d : TypeDesc) (cs : Array Value) (more : List Value) (hg : w.heap[g]? = some (.cells old t fr)) (hp : old.toList = cs.toList ++ more)
    (hu : P.underlying ty = some d) (hd : (match d with | .struct _ | .array _ _ => true | _ => false) = true) (hi : (P.info? ty).map (·.size) = some cs.size)
    (h : wpListIn F n P ops Q rest (a.put (some N) (.agg cs)) w) : wpListIn F n P ops Q (o :: rest) a w := by
  refine wpListIn_plain hgd fun _ hK => ?_
  unfold Oper.wpIn
  refine ⟨fun f hf => by simp [Oper.about, ho] at hf, ?_⟩
  rw [Oper.semAt_eq _ _ _ (by rw [ho]; intro c h; cases h)]
  unfold execOp
  simp only [ho, hx, Sem.run_bind, partLd more hg hp hu hd hi, Result.andThen_ok]
  exact hK _ _ (by rw [hN]; exact h)
theorem alloc_setRow (W : World) (old cs : Array Value) (t : TypeId) : (W.alloc (.cells old t (0, 0))).setRow W.heap.size cs = W.alloc (.cells cs t (0, 0)) := by
  unfold World.setRow World.alloc
  simp only
  congr 1
  apply Array.ext
  · simp
  · intro k h1 h2
    simp only [Array.getElem_modify]
    split
    · rename_i hk; subst hk; simp
    · rename_i hk
      have hlt : k < W.heap.size := by simp at h2; omega
      simp [Array.getElem_push, hlt]
theorem wpNewStIn {W : World} (hgd : o.guard = none) (ty : TypeId) (x y : Operand) (ho : o.op = .store ty x y)
    (cells : Array Value) (hx : a.eval x = .pointer (some ⟨W.heap.size, 0, none⟩)) (hy : a.eval y = .agg cells)
    (t : TypeId) (old : Array Value) (hi : (P.info? ty).map (·.size) = some cells.size)
    (hold : old.size = cells.size) (h1 : cells.toList.all (·.oneCell') = true)
    (h : wpListIn F n P ops Q rest (a.put o.dst undef) (W.alloc (.cells cells t (0, 0)))) : wpListIn F n P ops Q (o :: rest) a (W.alloc (.cells old t (0, 0))) := by
  refine wpListIn_plain hgd fun _ hK => ?_
  unfold Oper.wpIn
  refine ⟨fun f hf => by simp [Oper.about, ho] at hf, ?_⟩
  rw [Oper.semAt_eq _ _ _ (by rw [ho]; intro c h; cases h)]
  unfold execOp
  simp only [ho, hx, hy, Sem.run_bind, rowSt (newBlk W _) hi hold h1, Result.andThen_ok, alloc_setRow]
  exact hK _ _ h
theorem guardIn (hw : Region.wanted o (yielded ops a.tmps) = true) (h : wpListIn F n P ops Q ({ o with guard := none } :: rest) a w) : wpListIn F n P ops Q (o :: rest) a w := by
  have h1 : Region.wanted { o with guard := none } (yielded ops a.tmps) = true := rfl
  unfold wpListIn at h ⊢
  rw [if_pos h1] at h
  rw [if_pos hw]
  exact h
theorem dstIn {N : Tmp} (_hN : o.dst = some N) (h : wpListIn F n P ops Q (o :: rest) a w) : wpListIn F n P ops Q (o :: rest) a w := h
end
def KpT (w0 : World) (g cb : Nat) (W W' : World) : Prop := Below w0.heap.size W W' ∧ W'.heap[g]? = W.heap[g]? ∧ W'.heap[cb]? = W.heap[cb]?
theorem KpT.trans {w0 : World} {g cb : Nat} {A B C : World} (h : KpT w0 g cb A B) (k : KpT w0 g cb B C) : KpT w0 g cb A C := ⟨h.1.trans k.1, k.2.1.trans h.2.1, k.2.2.trans h.2.2⟩
theorem gb_of {w0 W W' : World} {g : Nat} (h0 : Below w0.heap.size w0 W) (h1 : Below w0.heap.size w0 W') (hk : KeepBut W W' g none) : W.grownBy W' (some g) :=
  ⟨h1.os.trans h0.os.symm, h1.tape.trans h0.tape.symm, h1.output.trans h0.output.symm, hk.1, fun k hk1 hne => hk.2 k hk1 (fun e => hne (by rw [e])) (by simp)⟩
theorem gb_drew (W : World) (r : Option Nat) : W.grownBy W.drew r := ⟨rfl, rfl, rfl, Nat.le_refl _, fun _ _ _ => rfl⟩
def EndS (tx : List UInt8) (xs : List Tk) (o : Obj) : Prop := ∃ i e : Int, o = .cells #[.string (bl tx), .int .i64 i, .int .i64 e] 48 (0, 0) ∧
  ((e = 0 ∧ scanF (tx.length + 1) 0 tx = (xs ++ [tkAt tkZ (tx.length : Int)], 0, 0)) ∨ (e ≠ 0 ∧ ∃ k : Nat, i = (k : Int) ∧ scanF (tx.length + 1) 0 tx = ([], k, e)))
def RelS (tx : List UInt8) (xs : List Tk) (f i : Nat) (l : List UInt8) : Prop := scanF (tx.length + 1) 0 tx = (if (scanF f i l).2.2 = 0 then (xs ++ (scanF f i l).1, 0, 0) else ([], (scanF f i l).2))
theorem RelS.start (tx : List UInt8) : RelS tx [] (tx.length + 1) 0 tx := by
  unfold RelS
  rcases scanF_shape (tx.length + 1) 0 tx with h | h
  · rw [if_pos h.1, List.nil_append]
    exact Prod.ext rfl (Prod.ext h.2 h.1)
  · rw [if_neg h.1]
    exact Prod.ext h.2 rfl
theorem RelS.blank {tx : List UInt8} {xs : List Tk} {f i : Nat} {r : List UInt8} (h : RelS tx xs (f + 1) i (32 :: r)) : RelS tx xs f (i + 1) r := by
  unfold RelS at h ⊢
  have e : scanF (f + 1) i (32 :: r) = scanF f (i + 1) r := rfl
  rwa [e] at h
theorem scanF_tok (f i : Nat) (c : UInt8) (r : List UInt8) (hc : ¬c = 32) : scanF (f + 1) i (c :: r) = (if (oneT7 (c :: r)).2.2 = 0 then
      (if (scanF f (i + (oneT7 (c :: r)).2.1) ((c :: r).drop (oneT7 (c :: r)).2.1)).2.2 = 0 then (tkAt (oneT7 (c :: r)).1 i :: (scanF f (i + (oneT7 (c :: r)).2.1) ((c :: r).drop (oneT7 (c :: r)).2.1)).1, 0, 0) else ([], (scanF f (i + (oneT7 (c :: r)).2.1) ((c :: r).drop (oneT7 (c :: r)).2.1)).2))
    else ([], i, (oneT7 (c :: r)).2.2)) := by
  rw [scanF]
  rw [if_neg hc]
theorem RelS.tok {tx : List UInt8} {xs : List Tk} {f i : Nat} {c : UInt8} {r : List UInt8} (hc : ¬c = 32) (h1 : (oneT7 (c :: r)).2.2 = 0) (h : RelS tx xs (f + 1) i (c :: r)) :
    RelS tx (xs ++ [tkAt (oneT7 (c :: r)).1 i]) f (i + (oneT7 (c :: r)).2.1) ((c :: r).drop (oneT7 (c :: r)).2.1) := by
  unfold RelS at h ⊢
  rw [scanF_tok f i c r hc, if_pos h1] at h
  by_cases h2 : (scanF f (i + (oneT7 (c :: r)).2.1) ((c :: r).drop (oneT7 (c :: r)).2.1)).2.2 = 0
  · rw [if_pos h2, if_pos rfl] at h
    rw [if_pos h2, h]
    simp
  · rw [if_neg h2, if_neg h2] at h
    rw [if_neg h2, h]
theorem RelS.wrong {tx : List UInt8} {xs : List Tk} {f i : Nat} {c : UInt8} {r : List UInt8} (hc : ¬c = 32) (h1 : ¬(oneT7 (c :: r)).2.2 = 0) (h : RelS tx xs (f + 1) i (c :: r)) : scanF (tx.length + 1) 0 tx = ([], i, (oneT7 (c :: r)).2.2) := by
  unfold RelS at h
  rw [scanF_tok f i c r hc, if_neg h1, if_neg h1] at h
  exact h
theorem tokens_calls (g : Nat) (w : World) : Calls Tryz.prog 14 #[ptV g] w fun e w' => e = .returned (.func (.func 16) #[] #[ptV w.heap.size]) ∧ w' = w.alloc (.cells #[ptV g] 46) := by
  go_enter Tryz.func14, Tryz.ntmps14
  go_wp2
  go_ret
  exact ⟨rfl, rfl⟩
set_option maxHeartbeats 8000000 in
set_option maxRecDepth 100000 in
theorem tok1_in (n l : Nat) (w0 : World) (g cb : Nat) (tx : List UInt8) (hlen : tx.length ≤ 1024) (J : List Tk → World → Prop) (hL0 : Aside0 (LaidW w0)) (hJ : AbX g J) (hcb : w0.heap.size ≤ cb) (hcg : cb ≠ g)
    (hY : ∀ pre x W1, J pre W1 → pre.length < 1024 → YieldAt Fence.wide (n - 1) Tryz.prog l #[.agg (TkA x)] W1 fun e W' => e = .returned (.bool true) ∧ J (pre ++ [x]) W' ∧ KpT w0 g cb W1 W') (W : World) (hcap : W.heap[cb]? = some (.cells #[ptV g] 46 (0, 0))) (hI : IsSc w0 W g (bl tx) 0 0) (hB : Below w0.heap.size w0 W) (h0 : J [] W) :
    CallsIn Fence.wide n Tryz.prog 16 #[.func (.yield l) #[] #[], ptV cb] W fun e W' => (∃ v, e = .returned v) ∧ ∃ xs o, EndS tx xs o ∧ J xs W' ∧ W'.heap[g]? = some o := by
  have hdd : ∀ k : Nat, (Fence.wide.depth.isSome = true → 1 ≤ k) := fun k h => by cases h
  refine callsIn_of_wp Tryz.func16 rfl trivial ?_ rfl
  simp only [Tryz.ntmps16, List.size_toArray, List.length_cons, List.length_nil, Nat.reduceAdd, Nat.reduceSub, Array.replicate_succ, Array.replicate_zero, List.push_toArray, List.append_toArray, List.nil_append, List.cons_append]
  obtain ⟨s, hs⟩ : ∃ s, bl tx = s := ⟨_, rfl⟩
  rw [hs] at hI
  have HS := Aside0.mk hs
  have HJ := Aside0.mk hJ
  have HY := Aside0.mk hY
  have HLn := Aside0.mk hlen
  clear hs hJ hY hlen
  gi_wp2
  gi_loopg [] (tx.length + 1) (fun kq wr => ∃ (pre l : List UInt8) (xs : List Tk) (f : Nat), Aside0 (tx = pre ++ l ∧ l.length + 1 = kq ∧ l.length < f ∧ xs.length ≤ pre.length ∧ RelS tx xs f pre.length l) ∧ Aside0 (IsSc w0 wr g s (pre.length : Int) 0 ∧ wr.heap[cb]? = some (.cells #[ptV g] 46 (0, 0)) ∧ Below w0.heap.size w0 wr ∧ J xs wr))
  case atStart => exact ⟨[], tx, [], tx.length + 1, ⟨rfl, rfl, Nat.lt_succ_self _, Nat.le_refl _, RelS.start tx⟩, ⟨hI, hcap, hB, h0⟩⟩
  case round =>
    obtain ⟨pre, rl, xs, f, HA, HW⟩ := hrel
    have hsz : s.size = pre.length + rl.length := by rw [← HS.out, HA.out.1, bl_size, List.length_append]
    have hS0 := (show (fun w' => IsSc w0 w' g s (pre.length : Int) 0 ∧ w'.heap[cb]? = some (.cells #[ptV g] 46 (0, 0)) ∧ Below w0.heap.size w0 w' ∧ J xs w') (wr.drew) from ⟨⟨blk_drew HW.out.1.1, HW.out.1.2⟩, blk_drew HW.out.2.1, below_drew1 HW.out.2.2.1, HJ.out _ _ _ HW.out.2.2.2 (gb_drew _ _)⟩)
    have HZ := Aside0.mk hsz
    obtain ⟨f, rfl⟩ : ∃ f', f = f' + 1 := ⟨f - 1, by have := HA.out.2.2.1; omega⟩
    clear HW h0 hB hI hcap
    cases rl with
    | nil =>
      have hd1 : decide ((pre.length : Int) < (s.size : Int)) = false := decide_eq_false (by rw [hsz]; simp)
      have hd2 : ¬(pre.length : Int) < (s.size : Int) := by rw [hsz]; simp
      clear hsz
      gi_wp2
      refine wpIn_wide.2 ?_
      refine start_ (n := 10) (S := fun w' => IsSc w0 w' g s (pre.length : Int) 0 ∧ w'.heap[cb]? = some (.cells #[ptV g] 46 (0, 0)) ∧ Below w0.heap.size w0 w' ∧ J xs w') (ds := []) #[false, false, false, false, false, false, false, false, false, false] (by kernel_rfl) rfl rfl hS0 (fun hHeld => ?_)
      refine with_tabW ltok0.tab0 ltok0.bits0 (fun HT_ HW_ => ?_)
      refine takeI 0 (some 5) HT_ HW_ rfl rfl (by kernel_rfl) (by rfl) (by rintro w' ⟨s1, s2, s3, s4⟩; have qc := (blk_cell s2 0).trans (show _ = some (ptV g) from rfl); have q0 := (blk_cell s1.1 0).trans (show _ = some (Value.string s) from rfl); have q1 := (blk_cell s1.1 1).trans (show _ = some (Value.int .i64 (pre.length : Int)) from rfl); go_simp; with_reducible rfl) hHeld (by simp only [Act.put, List.setIfInBounds_toArray, List.set_cons_zero, List.set_cons_succ]; rfl) ?_
      refine pureI 1 (some 6) HT_ rfl rfl (by kernel_rfl) (by rfl) (fun _ => by go_simp; with_reducible rfl) (by simp only [Act.put, List.setIfInBounds_toArray, List.set_cons_zero, List.set_cons_succ]; rfl) ?_
      refine pureI 2 (some 7) HT_ rfl rfl (by kernel_rfl) (by rfl) (fun _ => by go_simp; with_reducible rfl) (by simp only [Act.put, List.setIfInBounds_toArray, List.set_cons_zero, List.set_cons_succ]; rfl) ?_
      refine takeI 3 (some 8) HT_ HW_ rfl rfl (by kernel_rfl) (by rfl) (by rintro w' ⟨s1, s2, s3, s4⟩; have qc := (blk_cell s2 0).trans (show _ = some (ptV g) from rfl); have q0 := (blk_cell s1.1 0).trans (show _ = some (Value.string s) from rfl); have q1 := (blk_cell s1.1 1).trans (show _ = some (Value.int .i64 (pre.length : Int)) from rfl); go_simp; with_reducible rfl) hHeld (by simp only [Act.put, List.setIfInBounds_toArray, List.set_cons_zero, List.set_cons_succ]; rfl) ?_
      refine takeI 4 (some 9) HT_ HW_ rfl rfl (by kernel_rfl) (by rfl) (by rintro w' ⟨s1, s2, s3, s4⟩; have qc := (blk_cell s2 0).trans (show _ = some (ptV g) from rfl); have q0 := (blk_cell s1.1 0).trans (show _ = some (Value.string s) from rfl); have q1 := (blk_cell s1.1 1).trans (show _ = some (Value.int .i64 (pre.length : Int)) from rfl); go_simp; with_reducible rfl) hHeld (by simp only [Act.put, List.setIfInBounds_toArray, List.set_cons_zero, List.set_cons_succ]; rfl) ?_
      refine pureI 5 (some 10) HT_ rfl rfl (by kernel_rfl) (by rfl) (fun _ => by go_simp; with_reducible rfl) (by simp only [Act.put, List.setIfInBounds_toArray, List.set_cons_zero, List.set_cons_succ]; rfl) ?_
      refine pureI 6 (some 11) HT_ rfl rfl (by kernel_rfl) (by rfl) (fun _ => by go_simp; with_reducible rfl) (by simp only [Act.put, List.setIfInBounds_toArray, List.set_cons_zero, List.set_cons_succ]; rfl) ?_
      refine takeI 7 (some 12) HT_ HW_ rfl rfl (by kernel_rfl) (by rfl) (by rintro w' ⟨s1, s2, s3, s4⟩; have qc := (blk_cell s2 0).trans (show _ = some (ptV g) from rfl); have q0 := (blk_cell s1.1 0).trans (show _ = some (Value.string s) from rfl); have q1 := (blk_cell s1.1 1).trans (show _ = some (Value.int .i64 (pre.length : Int)) from rfl); go_simp; with_reducible rfl) hHeld (by simp only [Act.put, List.setIfInBounds_toArray, List.set_cons_zero, List.set_cons_succ]; rfl) ?_
      refine pureI 8 (some 13) HT_ rfl rfl (by kernel_rfl) (by rfl) (fun _ => by go_simp; with_reducible rfl) (by simp only [Act.put, List.setIfInBounds_toArray, List.set_cons_zero, List.set_cons_succ]; rfl) ?_
      refine pureI 9 (some 14) HT_ rfl rfl (by kernel_rfl) (by rfl) (fun _ => by go_simp; with_reducible rfl) (by simp only [Act.put, List.setIfInBounds_toArray, List.set_cons_zero, List.set_cons_succ]; rfl) ?_
      refine done_ (done_of HT_.out (by kernel_rfl)) ?_
      have H0 := Aside0.mk hHeld
      clear hHeld hS0
      gi_wp2
      go_end0
      obtain ⟨h1, h2, h3, h4⟩ := H0.out
      have hs := HS.out
      subst hs
      refine ⟨⟨_, rfl⟩, xs, _, ⟨_, _, rfl, .inl ⟨rfl, ?_⟩⟩, h4, h1.1⟩
      obtain ⟨ht, _, _, _, hr⟩ := HA.out
      rw [List.append_nil] at ht
      subst ht
      exact hr
    | cons c r =>
      have hat : pre.length < s.size := by rw [hsz, List.length_cons]; omega
      have hc := fun hh : pre.length < s.size => (show s[pre.length]'hh = c from by
        have hs := HS.out
        subst hs
        have ht := HA.out.1
        subst ht
        exact get_at pre (c :: r) 0 (by simp) hh)
      have hd1 : decide ((pre.length : Int) < (s.size : Int)) = true := decide_eq_true (by omega)
      have hd2 : (pre.length : Int) < (s.size : Int) := by omega
      have z0 : (0 : Int) ≤ (pre.length : Int) := by omega
      have z1 : ((pre.length : Int)).toNat = pre.length := by omega
      clear hsz
      gi_wp2
      refine wpIn_wide.2 ?_
      refine start_ (n := 10) (S := fun w' => IsSc w0 w' g s (pre.length : Int) 0 ∧ w'.heap[cb]? = some (.cells #[ptV g] 46 (0, 0)) ∧ Below w0.heap.size w0 w' ∧ J xs w') (ds := []) #[false, false, false, false, false, false, false, false, false, false] (by kernel_rfl) rfl rfl hS0 (fun hHeld => ?_)
      refine with_tabW ltok0.tab0 ltok0.bits0 (fun HT_ HW_ => ?_)
      refine takeI 0 (some 5) HT_ HW_ rfl rfl (by kernel_rfl) (by rfl) (by rintro w' ⟨s1, s2, s3, s4⟩; have qc := (blk_cell s2 0).trans (show _ = some (ptV g) from rfl); have q0 := (blk_cell s1.1 0).trans (show _ = some (Value.string s) from rfl); have q1 := (blk_cell s1.1 1).trans (show _ = some (Value.int .i64 (pre.length : Int)) from rfl); go_simp; with_reducible rfl) hHeld (by simp only [Act.put, List.setIfInBounds_toArray, List.set_cons_zero, List.set_cons_succ]; rfl) ?_
      refine pureI 1 (some 6) HT_ rfl rfl (by kernel_rfl) (by rfl) (fun _ => by go_simp; with_reducible rfl) (by simp only [Act.put, List.setIfInBounds_toArray, List.set_cons_zero, List.set_cons_succ]; rfl) ?_
      refine pureI 2 (some 7) HT_ rfl rfl (by kernel_rfl) (by rfl) (fun _ => by go_simp; with_reducible rfl) (by simp only [Act.put, List.setIfInBounds_toArray, List.set_cons_zero, List.set_cons_succ]; rfl) ?_
      refine takeI 3 (some 8) HT_ HW_ rfl rfl (by kernel_rfl) (by rfl) (by rintro w' ⟨s1, s2, s3, s4⟩; have qc := (blk_cell s2 0).trans (show _ = some (ptV g) from rfl); have q0 := (blk_cell s1.1 0).trans (show _ = some (Value.string s) from rfl); have q1 := (blk_cell s1.1 1).trans (show _ = some (Value.int .i64 (pre.length : Int)) from rfl); go_simp; with_reducible rfl) hHeld (by simp only [Act.put, List.setIfInBounds_toArray, List.set_cons_zero, List.set_cons_succ]; rfl) ?_
      refine takeI 4 (some 9) HT_ HW_ rfl rfl (by kernel_rfl) (by rfl) (by rintro w' ⟨s1, s2, s3, s4⟩; have qc := (blk_cell s2 0).trans (show _ = some (ptV g) from rfl); have q0 := (blk_cell s1.1 0).trans (show _ = some (Value.string s) from rfl); have q1 := (blk_cell s1.1 1).trans (show _ = some (Value.int .i64 (pre.length : Int)) from rfl); go_simp; with_reducible rfl) hHeld (by simp only [Act.put, List.setIfInBounds_toArray, List.set_cons_zero, List.set_cons_succ]; rfl) ?_
      refine pureI 5 (some 10) HT_ rfl rfl (by kernel_rfl) (by rfl) (fun _ => by go_simp; with_reducible rfl) (by simp only [Act.put, List.setIfInBounds_toArray, List.set_cons_zero, List.set_cons_succ]; rfl) ?_
      refine pureI 6 (some 11) HT_ rfl rfl (by kernel_rfl) (by rfl) (fun _ => by go_simp; with_reducible rfl) (by simp only [Act.put, List.setIfInBounds_toArray, List.set_cons_zero, List.set_cons_succ]; rfl) ?_
      refine takeI 7 (some 12) HT_ HW_ rfl rfl (by kernel_rfl) (by rfl) (by rintro w' ⟨s1, s2, s3, s4⟩; have qc := (blk_cell s2 0).trans (show _ = some (ptV g) from rfl); have q0 := (blk_cell s1.1 0).trans (show _ = some (Value.string s) from rfl); have q1 := (blk_cell s1.1 1).trans (show _ = some (Value.int .i64 (pre.length : Int)) from rfl); go_simp; with_reducible rfl) hHeld (by simp only [Act.put, List.setIfInBounds_toArray, List.set_cons_zero, List.set_cons_succ]; rfl) ?_
      refine pureI 8 (some 13) HT_ rfl rfl (by kernel_rfl) (by rfl) (fun _ => by go_simp; with_reducible rfl) (by simp only [Act.put, List.setIfInBounds_toArray, List.set_cons_zero, List.set_cons_succ]; rfl) ?_
      refine pureI 9 (some 14) HT_ rfl rfl (by kernel_rfl) (by rfl) (fun _ => by go_simp; with_reducible rfl) (by simp only [Act.put, List.setIfInBounds_toArray, List.set_cons_zero, List.set_cons_succ]; rfl) ?_
      refine done_ (done_of HT_.out (by kernel_rfl)) ?_
      have H0 := Aside0.mk hHeld
      have hS1 := (⟨⟨blk_drew H0.out.1.1, H0.out.1.2⟩, blk_drew H0.out.2.1, below_drew1 H0.out.2.2.1, HJ.out _ _ _ H0.out.2.2.2 (gb_drew _ _)⟩ : (fun w' => IsSc w0 w' g s (pre.length : Int) 0 ∧ w'.heap[cb]? = some (.cells #[ptV g] 46 (0, 0)) ∧ Below w0.heap.size w0 w' ∧ J xs w') (World.drew _))
      clear hHeld hS0
      have b32 : ((c.toNat : Int) == 32) = (c == 32) := eqB c 32
      by_cases h32 : c = 32
      · rw [show (c == 32) = true from beq_iff_eq.2 h32] at b32
        gi_wp2
        refine wpIn_wide.2 ?_
        refine start_ (n := 10) (S := fun w' => IsSc w0 w' g s (pre.length : Int) 0 ∧ w'.heap[cb]? = some (.cells #[ptV g] 46 (0, 0)) ∧ Below w0.heap.size w0 w' ∧ J xs w') (ds := []) #[false, false, false, false, false, false, false, false, false, false] (by kernel_rfl) rfl rfl hS1 (fun hHeld => ?_)
        refine with_tabW ltok1.tab1 ltok1.bits1 (fun HT_ HW_ => ?_)
        refine takeI 0 (some 15) HT_ HW_ rfl rfl (by kernel_rfl) (by rfl) (by rintro w' ⟨s1, s2, s3, s4⟩; have qc := (blk_cell s2 0).trans (show _ = some (ptV g) from rfl); have q0 := (blk_cell s1.1 0).trans (show _ = some (Value.string s) from rfl); have q1 := (blk_cell s1.1 1).trans (show _ = some (Value.int .i64 (pre.length : Int)) from rfl); go_simp; with_reducible rfl) hHeld (by simp only [Act.put, List.setIfInBounds_toArray, List.set_cons_zero, List.set_cons_succ]; rfl) ?_
        refine pureI 1 (some 16) HT_ rfl rfl (by kernel_rfl) (by rfl) (fun _ => by go_simp; with_reducible rfl) (by simp only [Act.put, List.setIfInBounds_toArray, List.set_cons_zero, List.set_cons_succ]; rfl) ?_
        refine pureI 2 (some 17) HT_ rfl rfl (by kernel_rfl) (by rfl) (fun _ => by go_simp; with_reducible rfl) (by simp only [Act.put, List.setIfInBounds_toArray, List.set_cons_zero, List.set_cons_succ]; rfl) ?_
        refine takeI 3 (some 18) HT_ HW_ rfl rfl (by kernel_rfl) (by rfl) (by rintro w' ⟨s1, s2, s3, s4⟩; have qc := (blk_cell s2 0).trans (show _ = some (ptV g) from rfl); have q0 := (blk_cell s1.1 0).trans (show _ = some (Value.string s) from rfl); have q1 := (blk_cell s1.1 1).trans (show _ = some (Value.int .i64 (pre.length : Int)) from rfl); go_simp; with_reducible rfl) hHeld (by simp only [Act.put, List.setIfInBounds_toArray, List.set_cons_zero, List.set_cons_succ]; rfl) ?_
        refine takeI 4 (some 19) HT_ HW_ rfl rfl (by kernel_rfl) (by rfl) (by rintro w' ⟨s1, s2, s3, s4⟩; have qc := (blk_cell s2 0).trans (show _ = some (ptV g) from rfl); have q0 := (blk_cell s1.1 0).trans (show _ = some (Value.string s) from rfl); have q1 := (blk_cell s1.1 1).trans (show _ = some (Value.int .i64 (pre.length : Int)) from rfl); go_simp; with_reducible rfl) hHeld (by simp only [Act.put, List.setIfInBounds_toArray, List.set_cons_zero, List.set_cons_succ]; rfl) ?_
        refine pureI 5 (some 20) HT_ rfl rfl (by kernel_rfl) (by rfl) (fun _ => by go_simp; with_reducible rfl) (by simp only [Act.put, List.setIfInBounds_toArray, List.set_cons_zero, List.set_cons_succ]; rfl) ?_
        refine pureI 6 (some 21) HT_ rfl rfl (by kernel_rfl) (by rfl) (fun _ => by go_simp; with_reducible rfl) (by simp only [Act.put, List.setIfInBounds_toArray, List.set_cons_zero, List.set_cons_succ]; rfl) ?_
        refine takeI 7 (some 22) HT_ HW_ rfl rfl (by kernel_rfl) (by rfl) (by rintro w' ⟨s1, s2, s3, s4⟩; have qc := (blk_cell s2 0).trans (show _ = some (ptV g) from rfl); have q0 := (blk_cell s1.1 0).trans (show _ = some (Value.string s) from rfl); have q1 := (blk_cell s1.1 1).trans (show _ = some (Value.int .i64 (pre.length : Int)) from rfl); go_simp; with_reducible rfl) hHeld (by simp only [Act.put, List.setIfInBounds_toArray, List.set_cons_zero, List.set_cons_succ]; rfl) ?_
        refine pureI 8 (some 23) HT_ rfl rfl (by kernel_rfl) (by rfl) (fun _ => by go_simp; with_reducible rfl) (by simp only [Act.put, List.setIfInBounds_toArray, List.set_cons_zero, List.set_cons_succ]; rfl) ?_
        refine pureI 9 (some 24) HT_ rfl rfl (by kernel_rfl) (by rfl) (fun _ => by go_simp; with_reducible rfl) (by simp only [Act.put, List.setIfInBounds_toArray, List.set_cons_zero, List.set_cons_succ]; rfl) ?_
        refine done_ (done_of HT_.out (by kernel_rfl)) ?_
        have H1 := Aside0.mk hHeld
        clear hHeld hS1 H0
        have qc := fun i => blk_cell H1.out.2.1 i
        have q1 := fun i => blk_cell H1.out.1.1 i
        have qf := fun i => blk_frozen H1.out.1.1 i
        have z2 : IntKind.i64.wrap ((pre.length : Int) + 1) = (pre.length : Int) + 1 := by rw [i64_w]; have := HZ.out; have := HLn.out; have h2 := congrArg List.length HA.out.1; rw [List.length_append] at h2; unfold wrap64; simp only [List.length_cons] at *; omega
        gi_wp2
        have hg := HA.out.2.1
        rw [List.length_cons] at hg
        subst hg
        go_roundg (r.length + 1)
        case measure => omega
        case rel =>
          subst h32
          obtain ⟨a1, a2, a3, a4, a5⟩ := HA.out
          obtain ⟨h1, h2, h3, h4⟩ := H1.out
          have e1 : (pre ++ [(32 : UInt8)]).length = pre.length + 1 := by simp
          refine ⟨pre ++ [32], r, xs, f, ⟨by rw [a1]; simp, rfl, by simp at a3; omega, by rw [e1]; omega, by rw [e1]; exact a5.blank⟩, ⟨?_, ?_, ?_, ?_⟩⟩
          · rw [e1]
            exact ⟨blk_put h1.1 1 _ rfl, h1.2⟩
          · exact blk_far (p := ⟨g, 1, none⟩) h2 hcg _
          · exact h3.setCell (p := ⟨g, 1, none⟩) h1.2 _
          · exact HJ.out _ _ _ h4 (gb_of h3 (h3.setCell (p := ⟨g, 1, none⟩) h1.2 _) ((KeepBut.refl _ g none).set_ 1 _))
      · rw [beq_eq_false_iff_ne.2 h32] at b32
        gi_wp2
        refine wpIn_wide.2 ?_
        refine start_ (n := 10) (S := fun w' => IsSc w0 w' g s (pre.length : Int) 0 ∧ w'.heap[cb]? = some (.cells #[ptV g] 46 (0, 0)) ∧ Below w0.heap.size w0 w' ∧ J xs w') (ds := []) #[false, false, false, false, false, false, false, false, false, false] (by kernel_rfl) rfl rfl hS1 (fun hHeld => ?_)
        refine with_tabW ltok1.tab1 ltok1.bits1 (fun HT_ HW_ => ?_)
        refine takeI 0 (some 15) HT_ HW_ rfl rfl (by kernel_rfl) (by rfl) (by rintro w' ⟨s1, s2, s3, s4⟩; have qc := (blk_cell s2 0).trans (show _ = some (ptV g) from rfl); have q0 := (blk_cell s1.1 0).trans (show _ = some (Value.string s) from rfl); have q1 := (blk_cell s1.1 1).trans (show _ = some (Value.int .i64 (pre.length : Int)) from rfl); go_simp; with_reducible rfl) hHeld (by simp only [Act.put, List.setIfInBounds_toArray, List.set_cons_zero, List.set_cons_succ]; rfl) ?_
        refine pureI 1 (some 16) HT_ rfl rfl (by kernel_rfl) (by rfl) (fun _ => by go_simp; with_reducible rfl) (by simp only [Act.put, List.setIfInBounds_toArray, List.set_cons_zero, List.set_cons_succ]; rfl) ?_
        refine pureI 2 (some 17) HT_ rfl rfl (by kernel_rfl) (by rfl) (fun _ => by go_simp; with_reducible rfl) (by simp only [Act.put, List.setIfInBounds_toArray, List.set_cons_zero, List.set_cons_succ]; rfl) ?_
        refine takeI 3 (some 18) HT_ HW_ rfl rfl (by kernel_rfl) (by rfl) (by rintro w' ⟨s1, s2, s3, s4⟩; have qc := (blk_cell s2 0).trans (show _ = some (ptV g) from rfl); have q0 := (blk_cell s1.1 0).trans (show _ = some (Value.string s) from rfl); have q1 := (blk_cell s1.1 1).trans (show _ = some (Value.int .i64 (pre.length : Int)) from rfl); go_simp; with_reducible rfl) hHeld (by simp only [Act.put, List.setIfInBounds_toArray, List.set_cons_zero, List.set_cons_succ]; rfl) ?_
        refine takeI 4 (some 19) HT_ HW_ rfl rfl (by kernel_rfl) (by rfl) (by rintro w' ⟨s1, s2, s3, s4⟩; have qc := (blk_cell s2 0).trans (show _ = some (ptV g) from rfl); have q0 := (blk_cell s1.1 0).trans (show _ = some (Value.string s) from rfl); have q1 := (blk_cell s1.1 1).trans (show _ = some (Value.int .i64 (pre.length : Int)) from rfl); go_simp; with_reducible rfl) hHeld (by simp only [Act.put, List.setIfInBounds_toArray, List.set_cons_zero, List.set_cons_succ]; rfl) ?_
        refine pureI 5 (some 20) HT_ rfl rfl (by kernel_rfl) (by rfl) (fun _ => by go_simp; with_reducible rfl) (by simp only [Act.put, List.setIfInBounds_toArray, List.set_cons_zero, List.set_cons_succ]; rfl) ?_
        refine pureI 6 (some 21) HT_ rfl rfl (by kernel_rfl) (by rfl) (fun _ => by go_simp; with_reducible rfl) (by simp only [Act.put, List.setIfInBounds_toArray, List.set_cons_zero, List.set_cons_succ]; rfl) ?_
        refine takeI 7 (some 22) HT_ HW_ rfl rfl (by kernel_rfl) (by rfl) (by rintro w' ⟨s1, s2, s3, s4⟩; have qc := (blk_cell s2 0).trans (show _ = some (ptV g) from rfl); have q0 := (blk_cell s1.1 0).trans (show _ = some (Value.string s) from rfl); have q1 := (blk_cell s1.1 1).trans (show _ = some (Value.int .i64 (pre.length : Int)) from rfl); go_simp; with_reducible rfl) hHeld (by simp only [Act.put, List.setIfInBounds_toArray, List.set_cons_zero, List.set_cons_succ]; rfl) ?_
        refine pureI 8 (some 23) HT_ rfl rfl (by kernel_rfl) (by rfl) (fun _ => by go_simp; with_reducible rfl) (by simp only [Act.put, List.setIfInBounds_toArray, List.set_cons_zero, List.set_cons_succ]; rfl) ?_
        refine pureI 9 (some 24) HT_ rfl rfl (by kernel_rfl) (by rfl) (fun _ => by go_simp; with_reducible rfl) (by simp only [Act.put, List.setIfInBounds_toArray, List.set_cons_zero, List.set_cons_succ]; rfl) ?_
        refine done_ (done_of HT_.out (by kernel_rfl)) ?_
        have H1 := Aside0.mk hHeld
        clear hHeld hS1 H0 hat hc hd1 hd2 z1
        have HO := Aside0.mk (show Calls Tryz.prog 17 #[ptV g] _ (OneOut s (pre.length : Int) (oneT7 (c :: r)) w0 g _) from by
          have h := one_calls pre c r w0 _ g (LaidAt hL0 H1.out.2.2.1) (by rw [← HA.out.1]; exact HLn.out) (by rw [← HA.out.1, HS.out]; exact H1.out.1) H1.out.2.2.1
          rw [← HA.out.1, HS.out] at h
          exact h)
        have qc := fun i => blk_cell H1.out.2.1 i
        by_cases he : (oneT7 (c :: r)).2.2 = 0
        · have HT := Aside0.mk (And.intro (RelS.tok h32 he HA.out.2.2.2.2) (oneT7_len (c :: r) he))
          have HXl := Aside0.mk (show xs.length < 1024 from by
            obtain ⟨a1, a2, a3, a4, a5⟩ := HA.out
            have h2 := congrArg List.length a1
            have := HLn.out
            rw [List.length_append, List.length_cons] at h2
            omega)
          generalize oneT7 (c :: r) = res at HO HT he
          have z3 : IntKind.i64.wrap ((pre.length : Int) + (res.2.1 : Int)) = (pre.length : Int) + (res.2.1 : Int) := by
            have h2 := congrArg List.length HA.out.1
            have := HLn.out
            have := HT.out.2
            rw [List.length_append] at h2
            rw [i64_w]
            unfold wrap64
            omega
          gi_wp2_with (first
            | ((try refine ⟨trivial, ?_⟩); (try refine ⟨hdd _, ?_⟩); gi_at_call 17; refine (callsIn_wide.2 HO.out).mono ?_; rintro e W3 ⟨t, m, rfl, h0, hs, hb0, hk⟩; obtain ⟨rfl, rfl⟩ := h0 he; rw [he] at hs; have C3 := Aside0.mk ((hk.2 cb (blk_lt H1.out.2.1) hcg (by simp)).trans H1.out.2.1); have hg3 := (Nat.ne_of_lt (blk_lt hs.1)); have hc3 := (Nat.ne_of_lt (blk_lt C3.out)); have b45 := bel1 W3 (.cells #[.int .i64 res.1.f0, .int .i64 res.1.f1.f0, .int .i64 res.1.f1.f1, .string res.1.f1.f2, .bool res.1.f1.f3, .int .i64 res.1.f1.f4, .int .i64 res.1.f2.f0.f0, .int .i64 res.1.f2.f0.f1, .bool res.1.f2.f1, .bool res.1.f2.f2, .string res.1.f3, .int .i64 (pre.length : Int)] 45); have G5 := Aside0.mk (show IsSc w0 (W3.alloc (.cells #[.int .i64 res.1.f0, .int .i64 res.1.f1.f0, .int .i64 res.1.f1.f1, .string res.1.f1.f2, .bool res.1.f1.f3, .int .i64 res.1.f1.f4, .int .i64 res.1.f2.f0.f0, .int .i64 res.1.f2.f0.f1, .bool res.1.f2.f1, .bool res.1.f2.f2, .string res.1.f3, .int .i64 (pre.length : Int)] 45)) g s (pre.length : Int) 0 from IsSc.below hs b45); have C5 := Aside0.mk (show (W3.alloc (.cells #[.int .i64 res.1.f0, .int .i64 res.1.f1.f0, .int .i64 res.1.f1.f1, .string res.1.f1.f2, .bool res.1.f1.f3, .int .i64 res.1.f1.f4, .int .i64 res.1.f2.f0.f0, .int .i64 res.1.f2.f0.f1, .bool res.1.f2.f1, .bool res.1.f2.f2, .string res.1.f3, .int .i64 (pre.length : Int)] 45)).heap[cb]? = _ from blk_below C3.out b45); have T5 := Aside0.mk (show (W3.alloc (.cells #[.int .i64 res.1.f0, .int .i64 res.1.f1.f0, .int .i64 res.1.f1.f1, .string res.1.f1.f2, .bool res.1.f1.f3, .int .i64 res.1.f1.f4, .int .i64 res.1.f2.f0.f0, .int .i64 res.1.f2.f0.f1, .bool res.1.f2.f1, .bool res.1.f2.f2, .string res.1.f3, .int .i64 (pre.length : Int)] 45)).heap[W3.heap.size]? = some (.cells (TkA (tkAt res.1 (pre.length : Int))) 45 (0, 0)) from newBlk W3 (.cells #[.int .i64 res.1.f0, .int .i64 res.1.f1.f0, .int .i64 res.1.f1.f1, .string res.1.f1.f2, .bool res.1.f1.f3, .int .i64 res.1.f1.f4, .int .i64 res.1.f2.f0.f0, .int .i64 res.1.f2.f0.f1, .bool res.1.f2.f1, .bool res.1.f2.f2, .string res.1.f3, .int .i64 (pre.length : Int)] 45)); have B5 := Aside0.mk (low hb0 b45); have J5 := Aside0.mk (HJ.out xs _ _ H1.out.2.2.2 (gb_of H1.out.2.2.1 B5.out (hk.trans (KeepBut.of_below b45 g none) (.inl rfl)))); have q41 := fun (i : Nat) => blk_cell (blk_alloc C3.out (.cells (TkA res.1) 45)) i; have q42 := fun (i : Nat) => blk_cell (blk_alloc hs.1 (.cells (TkA res.1) 45)) i; have q43 := (blk_cell (newBlk W3 (.cells (TkA res.1) 45)) 11).trans (show _ = some (Value.int .i64 res.1.f4) from rfl); have q44 := blk_frozen (newBlk W3 (.cells (TkA res.1) 45)) 11; have q51 := fun (i : Nat) => blk_cell C5.out i; have q52 := fun (i : Nat) => blk_cell G5.out.1 i; obtain ⟨fn, tmps, assign, body, hy, hR⟩ := HY.out xs (tkAt res.1 (pre.length : Int)) _ J5.out HXl.out; have HR := Aside0.mk hR; clear h0 hk HO qc b45 hb0 hs)
            | (refine wpNewStIn rfl 45 (.tmp 3) (.tmp 35) rfl (TkA res.1) rfl rfl 45 _ (by kernel_rfl) rfl rfl ?_)
            | ((with_reducible refine dstIn (N := 49) rfl ?_); refine guardIn (by rfl) ?_; dsimp only; refine wpPartLdIn 49 rfl rfl 45 (.tmp 3) rfl _ rfl _ (TkA (tkAt res.1 (pre.length : Int))) [] T5.out rfl Tryz.underlying45 rfl (by kernel_rfl) ?_)
            | ((try refine ⟨hdd _, ?_⟩); refine HR.out.mono ?_; clear HR hy; rintro e W6 ⟨rfl, hj6, hk6⟩; have G6 := Aside0.mk (show IsSc w0 W6 g s (pre.length : Int) 0 from ⟨hk6.2.1.trans G5.out.1, G5.out.2⟩); have C6 := Aside0.mk (hk6.2.2.trans C5.out); have B6 := Aside0.mk (B5.out.trans hk6.1); have J6 := Aside0.mk hj6; clear hj6 hk6; have q61 := fun (i : Nat) => blk_cell C6.out i; have q62 := fun (i : Nat) => blk_cell G6.out.1 i; have q63 := fun (i : Nat) => blk_frozen G6.out.1 i))
          have hg := HA.out.2.1
          subst hg
          go_roundg (((c :: r).drop res.2.1).length + 1)
          case measure => rw [List.length_drop]; have := HT.out.2; omega
          case rel =>
            obtain ⟨a1, a2, a3, a4, a5⟩ := HA.out
            obtain ⟨t1, t2, t3⟩ := HT.out
            have e1 : (pre ++ (c :: r).take res.2.1).length = pre.length + res.2.1 := by rw [List.length_append, List.length_take, Nat.min_eq_left t3]
            refine ⟨pre ++ (c :: r).take res.2.1, (c :: r).drop res.2.1, xs ++ [tkAt res.1 (pre.length : Int)], f, ⟨by rw [a1, List.append_assoc, List.take_append_drop], rfl, by rw [List.length_drop]; omega, by rw [e1, List.length_append, List.length_singleton]; omega, by rw [e1]; exact t1⟩, ⟨?_, ?_, ?_, ?_⟩⟩
            · rw [e1]
              exact ⟨blk_put G6.out.1 1 _ rfl, G6.out.2⟩
            · exact blk_far (p := ⟨g, 1, none⟩) C6.out hcg _
            · exact B6.out.setCell (p := ⟨g, 1, none⟩) G6.out.2 _
            · exact HJ.out _ _ _ J6.out (gb_of B6.out (B6.out.setCell (p := ⟨g, 1, none⟩) G6.out.2 _) ((KeepBut.refl _ g none).set_ 1 _))
        · have HT := Aside0.mk (RelS.wrong h32 he HA.out.2.2.2.2)
          generalize oneT7 (c :: r) = res at HO HT he
          obtain ⟨er, her⟩ : ∃ er, res.2.2 = er := ⟨_, rfl⟩
          rw [her] at he HT
          have n1 : (er != 0) = true := by simpa using he
          have n2 : (er == 0) = false := beq_eq_false_iff_ne.2 he
          gi_wp2_with (first
            | ((try refine ⟨trivial, ?_⟩); (try refine ⟨hdd _, ?_⟩); gi_at_call 17; refine (callsIn_wide.2 HO.out).mono ?_; rintro e W3 ⟨t, m, rfl, h0, hs, hb0, hk⟩; rw [her] at hs; have C3 := Aside0.mk ((hk.2 cb (blk_lt H1.out.2.1) hcg (by simp)).trans H1.out.2.1); have hg3 := (Nat.ne_of_lt (blk_lt hs.1)); have hc3 := (Nat.ne_of_lt (blk_lt C3.out)); have b45 := bel1 W3 (.cells #[.int .i64 t.f0, .int .i64 t.f1.f0, .int .i64 t.f1.f1, .string t.f1.f2, .bool t.f1.f3, .int .i64 t.f1.f4, .int .i64 t.f2.f0.f0, .int .i64 t.f2.f0.f1, .bool t.f2.f1, .bool t.f2.f2, .string t.f3, .int .i64 (pre.length : Int)] 45); have G5 := Aside0.mk (show IsSc w0 (W3.alloc (.cells #[.int .i64 t.f0, .int .i64 t.f1.f0, .int .i64 t.f1.f1, .string t.f1.f2, .bool t.f1.f3, .int .i64 t.f1.f4, .int .i64 t.f2.f0.f0, .int .i64 t.f2.f0.f1, .bool t.f2.f1, .bool t.f2.f2, .string t.f3, .int .i64 (pre.length : Int)] 45)) g s (pre.length : Int) er from IsSc.below hs b45); have C5 := Aside0.mk (show (W3.alloc (.cells #[.int .i64 t.f0, .int .i64 t.f1.f0, .int .i64 t.f1.f1, .string t.f1.f2, .bool t.f1.f3, .int .i64 t.f1.f4, .int .i64 t.f2.f0.f0, .int .i64 t.f2.f0.f1, .bool t.f2.f1, .bool t.f2.f2, .string t.f3, .int .i64 (pre.length : Int)] 45)).heap[cb]? = _ from blk_below C3.out b45); have T5 := Aside0.mk (show (W3.alloc (.cells #[.int .i64 t.f0, .int .i64 t.f1.f0, .int .i64 t.f1.f1, .string t.f1.f2, .bool t.f1.f3, .int .i64 t.f1.f4, .int .i64 t.f2.f0.f0, .int .i64 t.f2.f0.f1, .bool t.f2.f1, .bool t.f2.f2, .string t.f3, .int .i64 (pre.length : Int)] 45)).heap[W3.heap.size]? = some (.cells (TkA (tkAt t (pre.length : Int))) 45 (0, 0)) from newBlk W3 (.cells #[.int .i64 t.f0, .int .i64 t.f1.f0, .int .i64 t.f1.f1, .string t.f1.f2, .bool t.f1.f3, .int .i64 t.f1.f4, .int .i64 t.f2.f0.f0, .int .i64 t.f2.f0.f1, .bool t.f2.f1, .bool t.f2.f2, .string t.f3, .int .i64 (pre.length : Int)] 45)); have B5 := Aside0.mk (low hb0 b45); have J5 := Aside0.mk (HJ.out xs _ _ H1.out.2.2.2 (gb_of H1.out.2.2.1 B5.out (hk.trans (KeepBut.of_below b45 g none) (.inl rfl)))); have q41 := fun (i : Nat) => blk_cell (blk_alloc C3.out (.cells (TkA t) 45)) i; have q42 := fun (i : Nat) => blk_cell (blk_alloc hs.1 (.cells (TkA t) 45)) i; have q43 := (blk_cell (newBlk W3 (.cells (TkA t) 45)) 11).trans (show _ = some (Value.int .i64 t.f4) from rfl); have q44 := blk_frozen (newBlk W3 (.cells (TkA t) 45)) 11; have q51 := fun (i : Nat) => blk_cell C5.out i; have q52 := fun (i : Nat) => blk_cell G5.out.1 i; clear h0 hk HO qc b45 hb0 hs)
            | (refine wpNewStIn rfl 45 (.tmp 3) (.tmp 35) rfl (TkA t) rfl rfl 45 _ (by kernel_rfl) rfl rfl ?_)
            | (refine ⟨fun f hf => (by cases hf), ?_⟩; fail_if_success (show Oper.uponIn _ _ _ _ _ _ _ _)))
          (try simp only [Exit.inBlock, Exit.then])
          refine bodyPost_ret (results_none rfl _ _ _) rfl ?_
          have hs := HS.out
          subst hs
          exact ⟨⟨_, rfl⟩, xs, _, ⟨_, _, rfl, .inr ⟨he, pre.length, rfl, HT.out⟩⟩, J5.out, G5.out.1⟩
end Go.Proofs.YtmppnobldhhpjaaGreatDoor.Pr
end
