/-
  Lemmas for the law FAllFTable.
-/
import Derived.Test.YtopdjokncbpghaaGreatDoorSFAllFTable30
import Derived.Test.YtopdjokncbpghaaGreatDoorSFAllFTable21
import Derived.LoopIn
import Derived.LoopNIn
import Derived.OwnWalkIn
import Derived.RangeFuncBound
import Derived.RangeFuncCalls
import Derived.RangeFuncLeaves
import Derived.RangeFuncNested
import Derived.Shelf.Abstract
import Derived.Shelf.RegionOpen
import Derived.TacticsInMore
import Derived.WalkKit
set_option maxHeartbeats 8000000
set_option maxRecDepth 100000
set_option linter.unusedVariables false
set_option linter.unusedSimpArgs false
section
namespace Go.Proofs.YtopdjokncbpghaaGreatDoor.Pr
open Go.RowKit Go.Shelf Go.Proofs.YtopdjokncbpghaaGreatDoorW.PrintWords Go.Proofs.YtopdjokncbpghaaGreatDoorW.PrintLast Go.Proofs.YtopdjokncbpghaaGreatDoorW.PrintMore
attribute [local go_sem] Oper.semAt_some
section
variable {F : Fence} {n : Nat} {P : Program} {ops : Array Oper} {rest : List Oper} {o : Oper} {a : Act} {w : World} {Q : Exit → Act → World → Prop}
theorem wpPartLdIn (N : Tmp) (hN : o.dst = some N) (hgd : o.guard = none) (ty : TypeId) (x : Operand) (ho : o.op = .load ty x)
  (g : Nat) (hx : a.eval x = .pointer (some ⟨g, 0, none⟩)) {t : TypeId} {old : Array Value} {fr : Nat × Nat} (d : TypeDesc) (cs : Array Value) (more : List Value) (hg : w.heap[g]? = some (.cells old t fr)) (hp : old.toList = cs.toList ++ more)
  (hu : P.underlying ty = some d) (hd : (match d with | .struct _ | .array _ _ => true | _ => false) = true) (hi : (P.info? ty).map (·.size) = some cs.size)
  (h : wpListIn F n P ops Q rest (a.put (some N) (.agg cs)) w) : wpListIn F n P ops Q (o :: rest) a w := by
 refine wpListIn_plain hgd fun _ hK => ?_
 unfold Oper.wpIn
 refine ⟨fun f hf => by simp [Oper.about, ho] at hf, ?_⟩
 rw [Oper.semAt_eq _ _ _ (by rw [ho]; intro c h; cases h)]
 unfold execOp
 simp only [ho, hx, Sem.run_bind, partLd more hg hp hu hd hi, Result.andThen_ok]
 exact hK _ _ (by rw [hN]; exact h)
theorem wpLdAtIn (N : Tmp) (hN : o.dst = some N) (hgd : o.guard = none) (ty : TypeId) (x : Operand) (ho : o.op = .load ty x)
  (p : Addr) (hx : a.eval x = .pointer (some p)) (d : TypeDesc) (cs : Array Value) (hC : CellsAt w p cs)
  (hu : P.underlying ty = some d) (hd : (match d with | .struct _ | .array _ _ => true | _ => false) = true) (hi : (P.info? ty).map (·.size) = some cs.size)
  (h : wpListIn F n P ops Q rest (a.put (some N) (.agg cs)) w) : wpListIn F n P ops Q (o :: rest) a w := by
 refine wpListIn_plain hgd fun _ hK => ?_
 unfold Oper.wpIn
 refine ⟨fun f hf => by simp [Oper.about, ho] at hf, ?_⟩
 rw [Oper.semAt_eq _ _ _ (by rw [ho]; intro c h; cases h)]
 unfold execOp
 simp only [ho, hx, Sem.run_bind, rowLdAt hC hu hd hi, Result.andThen_ok]
 exact hK _ _ (by rw [hN]; exact h)
theorem alloc_setRow (W : World) (old cs : Array Value) (t : TypeId) : (W.alloc (.cells old t (0, 0))).setRow W.heap.size cs = W.alloc (.cells cs t (0, 0)) := by
 unfold World.setRow World.alloc
 simp only
 congr 1
 apply Array.ext
 ·simp
 ·intro k h1 h2
  simp only [Array.getElem_modify]
  split
  ·rename_i hk; subst hk; simp
  ·rename_i hk
   have hlt : k < W.heap.size := by simp at h2; omega
   simp [Array.getElem_push, hlt]
theorem wpNewStIn {W : World} (hgd : o.guard = none) (ty : TypeId) (x y : Operand) (ho : o.op = .store ty x y)
  (cells : Array Value) (hx : a.eval x = .pointer (some ⟨W.heap.size, 0, none⟩)) (hy : a.eval y = .agg cells)
  (t : TypeId) (old : Array Value) (hi : (P.info? ty).map (·.size) = some cells.size)
  (hold : old.size = cells.size) (h1 : cells.toList.all (·.oneCell') = true)
  (h : wpListIn F n P ops Q rest (a.put o.dst undef) (W.alloc (.cells cells t (0, 0)))) : wpListIn F n P ops Q (o :: rest) a (W.alloc (.cells old t (0, 0))) := by
 refine wpListIn_plain hgd fun _ hK => ?_
 unfold Oper.wpIn
 refine ⟨fun f hf => by simp [Oper.about, ho] at hf, ?_⟩
 rw [Oper.semAt_eq _ _ _ (by rw [ho]; intro c h; cases h)]
 unfold execOp
 simp only [ho, hx, hy, Sem.run_bind, rowSt (newBlk W _) hi hold h1, Result.andThen_ok, alloc_setRow]
 exact hK _ _ h
end
mutual
/-- a formula's nodes, each ahead of its kids. -/
def preN : Nd → List Nd
 | ⟨a, v, c, t, s, l⟩ => ⟨a, v, c, t, s, l⟩ :: preL l
def preL : List Nd → List Nd
 | [] => []
 | x :: r => preN x ++ preL r
end
theorem preN_eq (n : Nd) : preN n = n :: preL n.f5 := by cases n; rw [preN]
theorem preL_append : ∀ l m : List Nd, preL (l ++ m) = preL l ++ preL m
 | [], m => by rw [List.nil_append, preL, List.nil_append]
 | x :: r, m => by rw [List.cons_append, preL, preL, preL_append r m, List.append_assoc]
theorem preL_take_succ (l : List Nd) (k : Nat) (h : k < l.length) : preL (l.take (k + 1)) = preL (l.take k) ++ preN l[k] := by
 rw [List.take_succ_eq_append_getElem h, preL_append, preL, preL, List.append_nil]
theorem preL_split (l : List Nd) (k : Nat) (h : k < l.length) : preL l = preL (l.take k) ++ (preN l[k] ++ preL (l.drop (k + 1))) := by
 conv => lhs; rw [← List.take_append_drop k l, List.drop_eq_getElem_cons h, preL_append, preL]
abbrev NodeAt (we : World) := { x : Nd × Option Addr × Nat // KidsC we x.2.1 x.2.2 x.1.f5 }
abbrev NodeAt.nd {we : World} (x : NodeAt we) : Nd := x.1.1
abbrev NodeAt.enc {we : World} (x : NodeAt we) : Array Value := #[nodeV x.1.1 x.1.2.1 x.1.2.2]
def ownB (B : Nat) (W : World) : Option Nat := match W.cell? ⟨B, 0, none⟩ with | some v => v.ownBlock | none => none
def GoodB (B : Nat) (W : World) : Prop := ∀ b, ownB B W = some b → b < W.heap.size
structure KpB (n0 B : Nat) (W W' : World) : Prop where
 below : Below n0 W W'
 size : W.heap.size ≤ W'.heap.size
 good : GoodB B W → GoodB B W'
 keep : ∀ (k : Nat) (cs : Array Value) (t : TypeId), W.heap[k]? = some (.cells cs t (0, 0)) → k ≠ B → some k ≠ ownB B W → W'.heap[k]? = some (.cells cs t (0, 0))
 own : ownB B W' = ownB B W ∨ ∃ b, ownB B W' = some b ∧ W.heap.size ≤ b
theorem KpB.refl (n0 B : Nat) (W : World) : KpB n0 B W W := ⟨Below.refl _ _, Nat.le_refl _, fun h => h, fun _ _ _ h _ _ => h, .inl rfl⟩
theorem KpB.trans {n0 B : Nat} {W W1 W2 : World} (h : KpB n0 B W W1) (k : KpB n0 B W1 W2) : KpB n0 B W W2 := by
 refine ⟨h.below.trans k.below, Nat.le_trans h.size k.size, fun g => k.good (h.good g), fun j cs t hj hB ho => ?_, ?_⟩
 ·refine k.keep j cs t (h.keep j cs t hj hB ho) hB fun e => ?_
  rcases h.own with q | ⟨b, q, hb⟩
  ·exact ho (e.trans q)
  ·rw [q] at e
   have := Option.some.inj e
   have := blk_lt hj
   omega
 ·rcases k.own with q | ⟨b, q, hb⟩
  ·rcases h.own with r | ⟨b, r, hb⟩
   ·exact .inl (q.trans r)
   ·exact .inr ⟨b, q.trans r, hb⟩
  ·exact .inr ⟨b, q, Nat.le_trans h.size hb⟩
theorem ownB_other {B : Nat} {W W' : World} (h : W'.heap[B]? = W.heap[B]?) : ownB B W' = ownB B W := by
 unfold ownB
 simp only [World.cell?, h]
theorem KpB.alloc {n0 B : Nat} {W : World} (hn : n0 ≤ W.heap.size) (hB : B < W.heap.size) (o : Obj) : KpB n0 B W (W.alloc o) := by
 have e : ownB B (W.alloc o) = ownB B W := ownB_other (Below.heap_alloc W o B hB)
 refine ⟨(Below.refl _ W).alloc hn _, by simp, fun g b hb => ?_, fun k cs t hk _ _ => blk_alloc hk _, .inl e⟩
 rw [e] at hb
 have := g b hb
 simp; omega
theorem KpB.putObj {n0 B : Nat} {w : World} (hn : n0 ≤ w.heap.size) (hB : B < w.heap.size) (W : World) (l : Nat) (o o' : Obj) (hl : w.heap.size ≤ l) (h : W.heap[l]? = some o) (hc : o.isCells = false) (hw : o.isWalk = false) : KpB n0 B W (W.putObj l o') := by
 have e : ownB B (W.putObj l o') = ownB B W := ownB_other (World.putObj_heap_other (by omega))
 refine ⟨belowK_b hn W l o o' hl h hc hw, (grownBy_putObj' W l o').size, fun g b hb => ?_, fun k cs t hk _ _ => ?_, .inl e⟩
 ·rw [e] at hb
  exact Nat.lt_of_lt_of_le (g b hb) (grownBy_putObj' W l o').size
 ·refine (World.putObj_heap_other fun q => ?_).trans hk
  subst q
  rw [h] at hk
  cases hk
  cases hc
def Walked {we : World} (n0 B : Nat) (J Jx : List (NodeAt we) → World → Prop) (pre : List (NodeAt we)) (l : List Nd) (W : World) (e : Ending) (W' : World) : Prop :=
 (e = .returned (.bool true) ∧ (∃ ys : List (NodeAt we), ys.map NodeAt.nd = l ∧ J (pre ++ ys) W') ∧ KpB n0 B W W') ∨ (e = .returned (.bool false) ∧ ∃ q : List (NodeAt we), q.map NodeAt.nd <+: l ∧ Jx (pre ++ q) W')
theorem walk_in (l N B : Nat) (we : World) (J Jx : List (NodeAt we) → World → Prop) (hJa : ∀ s W o, J s W → J s (W.alloc o))
  (hY : ∀ m pre (x : NodeAt we) W, J pre W → pre.length < N → YieldAt Fence.wide m Tryz.prog l x.enc W fun e W' =>
   (e = .returned (.bool true) ∧ J (pre ++ [x]) W' ∧ KpB we.heap.size B W W') ∨ (e = .returned (.bool false) ∧ Jx (pre ++ [x]) W')) (d : Nat) :
  ∀ (n : Nd) (A : Option Addr) (c m : Nat) (pre : List (NodeAt we)) (W : World), szN n < d → KidsC we A c n.f5 → Below we.heap.size we W → GoodB B W → B < W.heap.size → J pre W → pre.length + (preN n).length ≤ N →
   CallsIn Fence.wide m Tryz.prog 56 #[nodeV n A c, .func (.yield l) #[] #[]] W (Walked we.heap.size B J Jx pre (preN n) W) := by
 induction d with
 | zero => intro n A c m pre W hd; omega
 | succ d ih =>
 intro n A c m pre W hd hK hb hg hB hJ hN
 have hdd : ∀ k : Nat, (Fence.wide.depth.isSome = true → 1 ≤ k) := fun k h => by cases h
 have hn0 : we.heap.size ≤ W.heap.size := hb.size
 have hlen := hK.1
 have hmax := hK.2.2.1
 rw [preN_eq, List.length_cons] at hN
 have hk1 := KpB.alloc (n0 := we.heap.size) hn0 hB (.cells (nodeA n A c) 44)
 have hb1 := hb.trans hk1.below
 have hbx := newBlk W (.cells (nodeA n A c) 44)
 have hown : some W.heap.size ≠ ownB B (W.alloc (.cells (nodeA n A c) 44)) := fun e => by
  rcases hk1.own with q | ⟨b, q, hbb⟩
  ·rw [q] at e; have := hg _ e.symm; omega
  ·have h0 := ownB_other (B := B) (Below.heap_alloc W (.cells (nodeA n A c) 44) B hB)
   rw [h0] at e; have := hg _ e.symm; omega
 have hy1 := YieldAt.mono (hY (m - 1) pre ⟨(n, A, c), hK⟩ _ (hJa _ _ (.cells (nodeA n A c) 44) hJ) (by omega)) (R' := fun e W2 =>
   (e = .returned (.bool true) ∧ J (pre ++ [⟨(n, A, c), hK⟩]) W2 ∧ KpB we.heap.size B W W2 ∧ W2.heap[W.heap.size]? = some (.cells (nodeA n A c) 44 (0, 0)) ∧ some W.heap.size ≠ ownB B W2) ∨ (e = .returned (.bool false) ∧ Jx (pre ++ [⟨(n, A, c), hK⟩]) W2))
  (fun e W2 h => h.elim (fun ⟨he, hj, hk⟩ => .inl ⟨he, hj, hk1.trans hk, hk.keep _ _ _ hbx (by omega) hown, fun e => by
   rcases hk.own with q | ⟨b, q, hbb⟩
   ·exact hown (e.trans q)
   ·rw [q] at e; have := Option.some.inj e; have := blk_lt hbx; omega⟩) .inr)
 have HI := Aside0.mk ih
 have HK := Aside0.mk hK
 have HJa := Aside0.mk hJa
 have HD := Aside0.mk hd
 have HN := Aside0.mk hN
 have Hb := Aside0.mk hb
 have Hg := Aside0.mk hg
 clear ih hY hk1 hb1 hown hJa hd hN hb hg
 obtain ⟨fn, tmps, assign, body, hy, hR⟩ := hy1
 have HR := Aside0.mk hR
 clear hR
 refine callsIn_of_wp Tryz.func56 rfl trivial ?_ rfl
 simp only [Tryz.ntmps56, List.size_toArray, List.length_cons, List.length_nil, Nat.reduceAdd, Nat.reduceSub, Array.replicate_succ, Array.replicate_zero, List.push_toArray, List.append_toArray, List.nil_append, List.cons_append]
 gi_wp2_with (first
  | (refine wpPartLdIn 8 rfl rfl 44 (.tmp 2) rfl _ rfl _ (nodeA n A c) [] hbx rfl Tryz.underlying44 rfl (by kernel_rfl) ?_)
  | ((try refine ⟨hdd _, ?_⟩); refine HR.out.mono ?_; clear HR hy; rintro e W2 (⟨rfl, hJ2, hk2, hbx2, hown2⟩ | ⟨rfl, hx2⟩); have h2 := fun i => blk_cell hbx2 i))
 ·have hnl : n.f5.length = (n.f5).length := rfl
  gi_loopw [6, 14] (fun u i wr => ∃ (k : Nat) (ys : List (NodeAt we)), k ≤ n.f5.length ∧ i = .int .i64 k ∧ Aside0 (ys.map NodeAt.nd = preL (n.f5.take k)) ∧ Aside0 (J (pre ++ ⟨(n, A, c), hK⟩ :: ys) wr) ∧ Aside0 (KpB we.heap.size B W wr)) (fun _ i _ => n.f5.length - (intOf i).toNat)
  case atStart => exact ⟨0, [], by omega, rfl, ⟨by simp [preL]⟩, ⟨by simpa using hJ2⟩, ⟨hk2⟩⟩
  case round =>
   clear h2
   obtain ⟨k, ys, hk, rfl, Hys, HJr, Hkr⟩ := hrel
   by_cases hkl : k < n.f5.length
   ·have hbw := Hb.out.trans Hkr.out.below
    obtain ⟨ad, A', c', e, hK', hCA0⟩ := kid_at HK.out.2 k hkl
    have hCA := hCA0.below hbw
    subst e
    have hBr : B < wr.heap.size := Nat.lt_of_lt_of_le hB Hkr.out.size
    have ha := KpB.alloc (n0 := we.heap.size) hbw.size hBr (.cells (nodeA n.f5[k] A' c') 44)
    have hln : (preL n.f5).length = (preL (n.f5.take k)).length + ((preN n.f5[k]).length + (preL (n.f5.drop (k + 1))).length) := by rw [preL_split n.f5 k hkl]; simp
    have hyl : ys.length = (preL (n.f5.take k)).length := by rw [← Hys.out]; simp
    have HIk := Aside0.mk (HI.out n.f5[k] A' c' (m - 1) (pre ++ ⟨(n, some ad, c), hK⟩ :: ys) (wr.alloc (.cells (nodeA n.f5[k] A' c') 44)) (by have := kid_lt (List.getElem_mem hkl); have := HD.out; omega) hK' (hbw.trans ha.below) (ha.good (Hkr.out.good Hg.out)) (by simp; omega) (HJa.out _ _ _ HJr.out) (by have := HN.out; simp only [List.length_append, List.length_cons]; omega))
    have Ha := Aside0.mk ha
    have HKk := Aside0.mk hK'
    clear ha hK' hCA0 hln hyl
    gi_wp2_with (first
     | (refine wpLdAtIn 17 rfl rfl 44 (.tmp 16) rfl (ad.add (k * 16)) rfl _ (nodeA n.f5[k] A' c') hCA Tryz.underlying44 rfl (by kernel_rfl) ?_)
     | (refine wpNewStIn rfl 44 (.tmp 6) (.tmp 17) rfl (nodeA n.f5[k] A' c') rfl rfl 44 _ (by kernel_rfl) rfl rfl ?_)
     | (refine wpPartLdIn 18 rfl rfl 44 (.tmp 6) rfl _ rfl _ (nodeA n.f5[k] A' c') [] (newBlk wr _) rfl Tryz.underlying44 rfl (by kernel_rfl) ?_)
     | ((try refine ⟨trivial, ?_⟩); (try refine ⟨hdd _, ?_⟩); gi_at_call 56; refine HIk.out.mono ?_; clear HIk; rintro e W4 (⟨rfl, ⟨ys', hys', hJ4⟩, hk4⟩ | ⟨rfl, q, hq, hx4⟩)))
    ·go_roundw
     case rel => exact ⟨k + 1, ys ++ ys', by omega, by go_num, ⟨by rw [List.map_append, Hys.out, hys', preL_take_succ n.f5 k hkl]⟩, ⟨by simpa using hJ4⟩, ⟨(Hkr.out.trans Ha.out).trans hk4⟩⟩
     case measure => simp [intOf]; omega
    ·go_ret
     obtain ⟨r, hr⟩ := hq
     exact .inr ⟨rfl, ⟨(n, some ad, c), hK⟩ :: ys ++ q, ⟨r ++ preL (n.f5.drop (k + 1)), by rw [preN_eq, preL_split n.f5 k hkl, ← hr]; simp [Hys.out]⟩, by simpa using hx4⟩
   ·obtain rfl : k = n.f5.length := by omega
    gi_wp2
    go_ret
    exact .inl ⟨rfl, ⟨⟨(n, A, c), hK⟩ :: ys, by rw [preN_eq, List.map_cons, Hys.out, List.take_length], HJr.out⟩, Hkr.out⟩
 ·go_ret
  exact .inr ⟨rfl, [⟨(n, A, c), hK⟩], by rw [preN_eq]; exact ⟨preL n.f5, rfl⟩, hx2⟩
theorem GoodB.below {B : Nat} {w W : World} (h : GoodB B w) (hb : Below w.heap.size w W) (hB : B < w.heap.size) : GoodB B W := by
 have e : ownB B W = ownB B w := by
  unfold ownB
  rw [hb.cell (p := ⟨B, 0, none⟩) hB]
 intro b q
 rw [e] at q
 exact Nat.lt_of_lt_of_le (h b q) hb.size
theorem all1_in (l B Bn m : Nat) (we : World) (n : Nd) (A : Option Addr) (c : Nat) (J Jx : List (NodeAt we) → World → Prop) (hJa : ∀ s W o, J s W → J s (W.alloc o))
  (hY : ∀ pre (x : NodeAt we) W, J pre W → pre.length < (preN n).length → YieldAt Fence.wide (m - 1) Tryz.prog l x.enc W fun e W' =>
   (e = .returned (.bool true) ∧ J (pre ++ [x]) W' ∧ KpB we.heap.size B W W') ∨ (e = .returned (.bool false) ∧ Jx (pre ++ [x]) W'))
  (W : World) (hbx : W.heap[Bn]? = some (.cells (nodeA n A c) 44 (0, 0))) (hK : KidsC we A c n.f5) (hb : Below we.heap.size we W) (hg : GoodB B W) (hB : B < W.heap.size) (h0 : J [] W) :
  CallsIn Fence.wide m Tryz.prog 55 #[.func (.yield l) #[] #[], .pointer (some ⟨Bn, 0, none⟩)] W fun e W' => (∃ v, e = .returned v) ∧
   ((∃ ys : List (NodeAt we), ys.map NodeAt.nd = preN n ∧ J ys W') ∨ (∃ q : List (NodeAt we), q.map NodeAt.nd <+: preN n ∧ Jx q W')) := by
 have hdd : ∀ k : Nat, (Fence.wide.depth.isSome = true → 1 ≤ k) := fun k h => by cases h
 have hany : ∀ {m m' : Nat} {args : Array Value} {W : World} {R : Ending → World → Prop}, YieldAt Fence.wide m Tryz.prog l args W R → YieldAt Fence.wide m' Tryz.prog l args W R := by
  rintro m m' args W R ⟨fn, tmps, assign, body, hy, hR⟩
  exact ⟨fn, tmps, assign, body, hy, hR.1, fun c cs _ => hR.2 c cs (fun d h => by cases h)⟩
 have HP := Aside0.mk (walk_in l (preN n).length B we J Jx hJa (fun m' pre x W hj hl => hany (hY pre x W hj hl)) (szN n + 1) n A c (m - 1) [] W (Nat.lt_succ_self _) hK hb hg hB h0 (by simp))
 clear hY hany
 refine callsIn_of_wp Tryz.func55 rfl trivial ?_ rfl
 simp only [Tryz.ntmps55, List.size_toArray, List.length_cons, List.length_nil, Nat.reduceAdd, Nat.reduceSub, Array.replicate_succ, Array.replicate_zero, List.push_toArray, List.append_toArray, List.nil_append, List.cons_append]
 gi_wp2_with (first
  | (refine wpPartLdIn 3 rfl rfl 44 (.tmp 1) rfl _ rfl _ (nodeA n A c) [] hbx rfl Tryz.underlying44 rfl (by kernel_rfl) ?_)
  | ((try refine ⟨trivial, ?_⟩); (try refine ⟨hdd _, ?_⟩); gi_at_call 56; refine HP.out.mono ?_; clear HP; rintro e W1 (⟨rfl, ⟨ys, hys, hJ1⟩, _⟩ | ⟨rfl, q, hq, hx⟩)))
 ·go_end0
  exact ⟨⟨_, rfl⟩, .inl ⟨ys, hys, by simpa using hJ1⟩⟩
 ·go_end0
  exact ⟨⟨_, rfl⟩, .inr ⟨q, hq, by simpa using hx⟩⟩
theorem all_calls (n : Nd) (A : Option Addr) (c : Nat) (w : World) :
  Calls Tryz.prog 35 #[nodeV n A c] w fun e w' => e = .returned (.func (.func 55) #[] #[.pointer (some ⟨w.heap.size, 0, none⟩)]) ∧ w' = w.alloc (.cells (nodeA n A c) 44) := by
 go_enter Tryz.func35, Tryz.ntmps35
 go_wp2
 go_ret
 exact ⟨rfl, rfl⟩
theorem all_stops (B Bn m : Nat) (we : World) (n : Nd) (A : Option Addr) (c : Nat) (w : World) (hbx : w.heap[Bn]? = some (.cells (nodeA n A c) 44 (0, 0))) (hK : KidsC we A c n.f5) (hb : Below we.heap.size we w) (hg : GoodB B w) (hB : B < w.heap.size) :
  SeqStopsK Fence.wide m Tryz.prog 55 #[.pointer (some ⟨Bn, 0, none⟩)] (fun x : NodeAt we => x.enc) (KpB we.heap.size B) (fun ys => ys.map NodeAt.nd = preN n) (fun q => q.map NodeAt.nd <+: preN n) (preN n).length w := fun l J Jx W hW hJ hJx hY h0 =>
 all1_in l B Bn m we n A c J Jx (fun s W1 o hs => hJ s W1 _ none hs (World.grownBy_alloc W1 o none) (fun r e => by cases e)) hY W (blk_below hbx hW) hK (hb.trans (hW.mono hb.size)) (hg.below hW hB) (Nat.lt_of_lt_of_le hB hW.size) h0
end Go.Proofs.YtopdjokncbpghaaGreatDoor.Pr
end
