/-
  Lemmas for the law RFollowsRBack.
-/
import Derived.Test.YthnldbclbfpojaaGreatDoorSRFollowsRBack14
import Derived.Test.YthnldbclbfpojaaGreatDoorSRFollowsRBack34
import Derived.Maps.OwnIn
set_option maxHeartbeats 8000000
set_option maxRecDepth 100000
set_option linter.unusedVariables false
set_option linter.unusedSimpArgs false
section
namespace Go.Proofs.YthnldbclbfpojaaGreatDoor.Pr
open Go.RowKit Go.Shelf Go.Proofs.YthnldbclbfpojaaGreatDoorW.PrintWords Go.Proofs.YthnldbclbfpojaaGreatDoorW.PrintLast Go.Proofs.YthnldbclbfpojaaGreatDoorW.PrintMore
abbrev S_R := S64
theorem contains_l0 (l : List S_R) (x : S_R) (hl : l.length < 4611686018427387904) : ∀ (k i : Nat), i ≤ l.length → l.length - i < k →
  ∃ r, api_Rect_80.l0 k l (l.length : Int) (i : Int) x.f0 x.f1 x.f2 x.f3 = some r ∧ (r ≥ 0 ↔ x ∈ l.drop i)
 | 0, i, _, h => by omega
 | k + 1, i, hi, h => by
  unfold api_Rect_80.l0
  by_cases hlt : i < l.length
  ·rw [if_pos (by omega), if_pos (by omega), if_pos (by omega)]
   have hg : rd_T64 l (i : Int) = l[i] := by
    unfold rd_T64
    rw [Int.toNat_natCast, List.getD_eq_getElem?_getD, List.getElem?_eq_getElem hlt]; rfl
   rw [hg, List.drop_eq_getElem_cons hlt]
   by_cases he : x = l[i]
   ·rw [if_pos (by rw [← he]; simp)]
    exact ⟨_, rfl, iff_of_true (by omega) (List.mem_cons.2 (.inl he))⟩
   ·rw [if_neg (by
     intro hc
     simp only [Bool.and_eq_true, beq_iff_eq] at hc
     obtain ⟨h0, h1, h2, h3⟩ := hc
     apply he
     cases x
     generalize hL : l[i] = y at h0 h1 h2 h3 ⊢
     cases y
     simp only at h0 h1 h2 h3
     subst h0 h1 h2 h3
     rfl)]
    rw [show wrap64 ((i : Int) + 1) = ((i + 1 : Nat) : Int) by unfold wrap64; omega]
    obtain ⟨r, hr, hm⟩ := contains_l0 l x hl k (i + 1) (by omega) (by omega)
    exact ⟨r, hr, hm.trans ⟨fun h => List.mem_cons.2 (.inr h), fun h => (List.mem_cons.1 h).resolve_left he⟩⟩
  ·rw [if_neg (by omega)]
   refine ⟨_, rfl, ?_⟩
   rw [List.drop_eq_nil_of_le (by omega)]
   simp
theorem contains_calls (l : List S_R) (x : S_R) (A : Option Addr) (c : Nat) (hl : l.length < 4611686018427387904) (w : World) (hr : Kd.C k64 w A l.length l) (hc : l.length ≤ c) :
  Calls Tryz.prog 48 #[.slice A l.length c, .agg #[.int .i64 x.f0, .int .i64 x.f1, .int .i64 x.f2, .int .i64 x.f3]] w fun e w' => (∃ b, e = .returned (.bool b) ∧ (b = true ↔ x ∈ l)) ∧ Below w.heap.size w w' := by
 obtain ⟨r, h1, h2⟩ := contains_l0 l x hl (l.length + 1) 0 (Nat.zero_le _) (by omega)
 refine (api_Rect_48.calls (l.length + 1) A c l x.f0 x.f1 x.f2 x.f3 (decide (r ≥ 0)) w hr hc ?_).mono ?_
 ·unfold api_Rect_48.f api_Rect_80.f
  rw [show (0 : Int) = ((0 : Nat) : Int) from rfl, h1]; rfl
 ·rintro e w' ⟨rfl, hb⟩
  exact ⟨⟨_, rfl, by rw [decide_eq_true_iff]; simpa using h2⟩, hb⟩
section
variable {F : Fence} {nF : Nat} {P : Program} {ops : Array Oper} {rest : List Oper} {o : Oper} {a : Act} {Q : Exit → Act → World → Prop} {α : Type}
theorem append_cellsIn {W : World} (base : Nat) (hgd : o.guard = none) (s x : Operand) (t e : TypeId) (z : Value) (size bytes : Nat)
  (ho : o.op = .call { callee := .builtin .append, args := #[s, x], argTypes := #[t, t] })
  (ht : P.underlying t = some (.slice e)) (hinfo : (P.info? e).map (fun i => (i.zero, i.size, i.bytes)) = some (some z, size, bytes)) (hz : z.cells.size = size) (hs0 : 0 < size) (hb0 : 0 < bytes)
  (v : Value) (n : Nat) (xs ys : List Value) (hs : a.eval s = v) (hx : a.eval x = .slice (some ⟨W.heap.size, 0, none⟩) 1 1) (hys : ys.length = size) (h1 : ∀ u ∈ ys, u.oneCell' = true)
  (HO : W.ownsRow base e size v n xs) (hbase : base ≤ W.heap.size) (hl : (n + 1) * bytes ≤ 140737488355328)
  (h : ∀ v1 w1, w1.ownsRow base e size v1 (n + 1) (xs ++ ys) → W.grownBy w1 v.ownBlock → (v1.ownBlock = v.ownBlock ∨ ∃ b, v1.ownBlock = some b ∧ W.heap.size ≤ b) → wpListIn F nF P ops Q rest (a.put o.dst v1) w1) :
  wpListIn F nF P ops Q (o :: rest) a (W.alloc (.cells ys.toArray e)) := by
 obtain ⟨i0, hi, hzz⟩ := Option.map_eq_some_iff.1 hinfo
 simp only [Prod.mk.injEq] at hzz
 obtain ⟨hz0, hz1, hz2⟩ := hzz
 have hlen : n + 1 ≤ 140737488355328 := Nat.le_trans (Nat.le_mul_of_pos_right _ hb0) hl
 refine wpListIn_append_own_at (W.alloc (.cells ys.toArray e)) hgd s x t ho base e i0 z size bytes ht hi hz0 hz1 hz2 hz hs0 v n xs hs (HO.alloc _) ⟨W.heap.size, 0, none⟩ 1 1 ys hx (by rw [hys]; simp)
  (by simpa using World.news_of_block (cs := ys.toArray) (t := e) (fr := (0, 0)) (heap_alloc_new W (.cells ys.toArray e))) h1 (by simp only [maxLen]; omega) hl (by simp; omega) ?_
 intro v1 w1 hown hg _ hat
 refine h v1 w1 hown (World.grownBy.trans (World.grownBy_alloc W _ _) hg) ?_
 rcases hat with hat | hat
 ·exact .inl hat
 ·exact .inr ⟨_, hat, by simp⟩
theorem R_appendIn (d : Kd α) {W : World} (base : Nat) (hgd : o.guard = none) (s x : Operand) (t e : TypeId) (z : Value) (bytes : Nat)
  (ho : o.op = .call { callee := .builtin .append, args := #[s, x], argTypes := #[t, t] })
  (ht : P.underlying t = some (.slice e)) (hinfo : (P.info? e).map (fun i => (i.zero, i.size, i.bytes)) = some (some z, d.sz, bytes)) (hz : z.cells.size = d.sz) (hs0 : 0 < d.sz) (hb0 : 0 < bytes)
  (v : Value) (xs : List α) (p : α) (cs : List Value) (ok okp : Nat → Prop) (hs : a.eval s = v) (hx : a.eval x = .slice (some ⟨W.heap.size, 0, none⟩) 1 1) (hp : d.M W base okp p cs) (hokp : ∀ k, okp k → ok k ∧ some k ≠ v.ownBlock) (hfresh : ∀ k, W.heap.size ≤ k → ok k)
  (HO : d.R e W base ok v xs) (hbase : base ≤ W.heap.size) (hl : (xs.length + 1) * bytes ≤ 140737488355328)
  (h : ∀ v1 w1, d.R e w1 base ok v1 (xs ++ [p]) → W.grownBy w1 v.ownBlock → (v1.ownBlock = v.ownBlock ∨ ∃ b, v1.ownBlock = some b ∧ W.heap.size ≤ b) → wpListIn F nF P ops Q rest (a.put o.dst v1) w1) :
  wpListIn F nF P ops Q (o :: rest) a (W.alloc (.cells cs.toArray e)) := by
 obtain ⟨h0, inner, hown, hr⟩ := HO
 refine append_cellsIn base hgd s x t e z d.sz bytes ho ht hinfo hz hs0 hb0 v xs.length inner cs hs hx (d.K_len (d.K_of_M hp)) (d.K_one (d.K_of_M hp)) hown hbase hl ?_
 intro v1 w1 hown1 hg1 hat1
 exact h v1 w1 (Kd.R_appended h0 hr hp hokp hfresh hown1 hg1 hat1) hg1 hat1
end
def HoldR (B : Nat) (xs : List S_R) (W : World) : Prop := ∃ v, Boxed W B 59 v ∧ Kd.R k64 64 W B (fun k => k ≠ B) v xs
theorem HoldR.below {B : Nat} {xs : List S_R} {W W1 : World} (h : HoldR B xs W) (hb : Below W.heap.size W W1) : HoldR B xs W1 := by
 obtain ⟨v, hB, hR⟩ := h
 exact ⟨v, blk_below hB hb, Kd.R_below hR hb⟩
theorem HoldR.own {β : Type} (b B : Nat) (f : β → List S_R) : OwnFrom b (fun pre W => HoldR B (f pre) W) := by
 rintro s W W' row ⟨v, hB, hR⟩ hg hr
 refine ⟨v, (boxed_own B 59 (fun (_ : Unit) => v)) () W W' row hB hg (fun r e => (hr r e).2), ?_⟩
 refine Kd.R_mono (Kd.R_grown (Kd.R_bound hR) hg (fun k hk e => ?_)) (fun k hk => hk.1)
 obtain ⟨_, _, _, q, _, cells, hc⟩ := hk
 obtain ⟨_, o, ho, hn⟩ := hr k e.symm
 rw [hc] at ho
 cases ho
 cases hn
theorem KpB.call {n0 B : Nat} {W W1 : World} (hn : n0 ≤ W.heap.size) (hB : B < W.heap.size) (hb : Below W.heap.size W W1) : KpB n0 B W W1 := by
 have e : ownB B W1 = ownB B W := ownB_other (hb.block B hB)
 refine ⟨hb.mono hn, hb.size, fun g b h => ?_, fun k cs t hk _ _ => (hb.block k (blk_lt hk)).trans hk, .inl e⟩
 rw [e] at h
 exact Nat.lt_of_lt_of_le (g b h) hb.size
theorem ownB_boxed {B : Nat} {t : TypeId} {v : Value} {W : World} (h : Boxed W B t v) : ownB B W = v.ownBlock := by
 unfold ownB
 rw [h.cell]
theorem KpB.app {n0 B : Nat} {t : TypeId} {v v1 : Value} {W w1 : World} (hn : n0 ≤ B) (hb : Boxed W B t v) (hg : W.grownBy w1 v.ownBlock) (hv : ∀ k, v.ownBlock = some k → B ≤ k ∧ k ≠ B)
  (hlt : ∀ k, v1.ownBlock = some k → k < w1.heap.size) (hat : v1.ownBlock = v.ownBlock ∨ ∃ b, v1.ownBlock = some b ∧ W.heap.size ≤ b) : KpB n0 B W (w1.setCell ⟨B, 0, none⟩ v1) := by
 have hB1 : Boxed w1 B t v := blk_grown hb hg (fun e => (hv B e.symm).2 rfl)
 have e1 : ownB B (w1.setCell ⟨B, 0, none⟩ v1) = v1.ownBlock := ownB_boxed (hB1.set v1)
 have hlB := hb.lt
 refine ⟨((Below.refl n0 W).grown hg (by omega) (fun k e => Nat.le_trans hn (hv k e).1)).setCell (p := ⟨B, 0, none⟩) hn _, by simpa using hg.size, fun _ b h => ?_, fun k cs t hk hkB ho => ?_, ?_⟩
 ·rw [e1] at h
  simpa using hlt b h
 ·rw [ownB_boxed hb] at ho
  exact (Below.heap_setCell w1 ⟨B, 0, none⟩ v1 k hkB).trans ((hg.block k (blk_lt hk) ho).trans hk)
 ·rw [e1, ownB_boxed hb]
  exact hat
theorem KeepsOthers.call {W W1 : World} (hb : Below W.heap.size W W1) : KeepsOthers W W1 := ⟨hb.size, fun k o hk _ => (hb.block k (Array.getElem?_eq_some_iff.1 hk).1).trans hk⟩
def rcS (n : Nd) : S_R := ⟨(fR n).t, (fR n).l, (fR n).o, (fR n).r⟩
instance : DecidableEq S_R := fun a b => decidable_of_iff (a.f0 = b.f0 ∧ a.f1 = b.f1 ∧ a.f2 = b.f2 ∧ a.f3 = b.f3) ⟨fun h => by cases a; cases b; simp only at h; obtain ⟨rfl, rfl, rfl, rfl⟩ := h; rfl, fun h => by subst h; exact ⟨rfl, rfl, rfl, rfl⟩⟩
def addS (out : List S_R) (n : Nd) : List S_R := if rgB n = true then (if rcS n ∈ out then out else out ++ [rcS n]) else out
def outS (l : List Nd) : List S_R := l.foldl addS []
theorem outS_snoc (l : List Nd) (n : Nd) : outS (l ++ [n]) = addS (outS l) n := by simp [outS]
theorem addS_length (out : List S_R) (n : Nd) : (addS out n).length ≤ out.length + 1 := by
 unfold addS
 repeat' split
 all_goals simp
theorem outS_length (l : List Nd) : (outS l).length ≤ l.length := by
 have : ∀ (l : List Nd) (o : List S_R), (l.foldl addS o).length ≤ o.length + l.length := by
  intro l
  induction l with
  | nil => intro o; simp
  | cons x r ih =>
   intro o
   have h1 := ih (addS o x)
   have h2 := addS_length o x
   simp only [List.foldl_cons, List.length_cons]
   omega
 simpa [outS] using this l []
end Go.Proofs.YthnldbclbfpojaaGreatDoor.Pr
end
