/-
  Lemmas for the law FFindsFChecksFRectsFKids.
-/
import Derived.Test.YtopdjokncbpghaaGreatDoorSFFindsFChecksFRectsFKids28
import Derived.Test.YtopdjokncbpghaaGreatDoorSFFindsFChecksFRectsFKids33
import Derived.Test.YtopdjokncbpghaaGreatDoorSFFindsFChecksFRectsFKids23
import Derived.Test.YtopdjokncbpghaaGreatDoorSFFindsFChecksFRectsFKids29
import Derived.Test.YtopdjokncbpghaaGreatDoorSFFindsFChecksFRectsFKids30
import Derived.Test.YtopdjokncbpghaaGreatDoorSFFindsFChecksFRectsFKids7
import Derived.Test.YtopdjokncbpghaaGreatDoorSFFindsFChecksFRectsFKids32
import Derived.Maps.OwnIn
set_option maxHeartbeats 8000000
set_option maxRecDepth 100000
set_option linter.unusedVariables false
set_option linter.unusedSimpArgs false
section
namespace Go.Proofs.YtopdjokncbpghaaGreatDoor.Pr
open Go.RowKit Go.Shelf Go.Proofs.YtopdjokncbpghaaGreatDoorW.PrintWords Go.Proofs.YtopdjokncbpghaaGreatDoorW.PrintLast Go.Proofs.YtopdjokncbpghaaGreatDoorW.PrintMore
abbrev S_R := S58
theorem contains_l0 (l : List S_R) (x : S_R) (hl : l.length < 4611686018427387904) : ∀ (k i : Nat), i ≤ l.length → l.length - i < k →
  ∃ r, api_Rect_60.l0 k l (l.length : Int) (i : Int) x.f0 x.f1 x.f2 x.f3 = some r ∧ (r ≥ 0 ↔ x ∈ l.drop i)
 | 0, i, _, h => by omega
 | k + 1, i, hi, h => by
  unfold api_Rect_60.l0
  by_cases hlt : i < l.length
  ·rw [if_pos (by omega), if_pos (by omega), if_pos (by omega)]
   have hg : rd_T58 l (i : Int) = l[i] := by
    unfold rd_T58
    rw [Int.toNat_natCast, List.getD_eq_getElem?_getD, List.getElem?_eq_getElem hlt]; rfl
   rw [hg, List.drop_eq_getElem_cons hlt]
   by_cases he : x = l[i]
   ·rw [if_pos (by rw [← he]; simp)]
    exact ⟨_, rfl, iff_of_true (by omega) (List.mem_cons.2 (.inl he))⟩
   ·rw [if_neg (by
     intro hc
     simp only [Bool.and_eq_true, beq_iff_eq] at hc
     obtain ⟨h0, h1, h2, h3⟩ := hc
     apply he
     cases x
     generalize hL : l[i] = y at h0 h1 h2 h3 ⊢
     cases y
     simp only at h0 h1 h2 h3
     subst h0 h1 h2 h3
     rfl)]
    rw [show wrap64 ((i : Int) + 1) = ((i + 1 : Nat) : Int) by unfold wrap64; omega]
    obtain ⟨r, hr, hm⟩ := contains_l0 l x hl k (i + 1) (by omega) (by omega)
    exact ⟨r, hr, hm.trans ⟨fun h => List.mem_cons.2 (.inr h), fun h => (List.mem_cons.1 h).resolve_left he⟩⟩
  ·rw [if_neg (by omega)]
   refine ⟨_, rfl, ?_⟩
   rw [List.drop_eq_nil_of_le (by omega)]
   simp
theorem contains_calls (l : List S_R) (x : S_R) (A : Option Addr) (c : Nat) (hl : l.length < 4611686018427387904) (w : World) (hr : Kd.C k58 w A l.length l) (hc : l.length ≤ c) :
  Calls Tryz.prog 41 #[.slice A l.length c, .agg #[.int .i64 x.f0, .int .i64 x.f1, .int .i64 x.f2, .int .i64 x.f3]] w fun e w' => (∃ b, e = .returned (.bool b) ∧ (b = true ↔ x ∈ l)) ∧ Below w.heap.size w w' := by
 obtain ⟨r, h1, h2⟩ := contains_l0 l x hl (l.length + 1) 0 (Nat.zero_le _) (by omega)
 refine (api_Rect_41.calls (l.length + 1) A c l x.f0 x.f1 x.f2 x.f3 (decide (r ≥ 0)) w hr hc ?_).mono ?_
 ·unfold api_Rect_41.f api_Rect_60.f
  rw [show (0 : Int) = ((0 : Nat) : Int) from rfl, h1]; rfl
 ·rintro e w' ⟨rfl, hb⟩
  exact ⟨⟨_, rfl, by rw [decide_eq_true_iff]; simpa using h2⟩, hb⟩
section
variable {F : Fence} {nF : Nat} {P : Program} {ops : Array Oper} {rest : List Oper} {o : Oper} {a : Act} {Q : Exit → Act → World → Prop} {α : Type}
theorem append_cellsIn {W : World} (base : Nat) (hgd : o.guard = none) (s x : Operand) (t e : TypeId) (z : Value) (size bytes : Nat)
  (ho : o.op = .call { callee := .builtin .append, args := #[s, x], argTypes := #[t, t] })
  (ht : P.underlying t = some (.slice e)) (hinfo : (P.info? e).map (fun i => (i.zero, i.size, i.bytes)) = some (some z, size, bytes)) (hz : z.cells.size = size) (hs0 : 0 < size) (hb0 : 0 < bytes)
  (v : Value) (n : Nat) (xs ys : List Value) (hs : a.eval s = v) (hx : a.eval x = .slice (some ⟨W.heap.size, 0, none⟩) 1 1) (hys : ys.length = size) (h1 : ∀ u ∈ ys, u.oneCell' = true)
  (HO : W.ownsRow base e size v n xs) (hbase : base ≤ W.heap.size) (hl : (n + 1) * bytes ≤ 140737488355328)
  (h : ∀ v1 w1, w1.ownsRow base e size v1 (n + 1) (xs ++ ys) → W.grownBy w1 v.ownBlock → (v1.ownBlock = v.ownBlock ∨ ∃ b, v1.ownBlock = some b ∧ W.heap.size ≤ b) → wpListIn F nF P ops Q rest (a.put o.dst v1) w1) :
  wpListIn F nF P ops Q (o :: rest) a (W.alloc (.cells ys.toArray e)) := by
 obtain ⟨i0, hi, hzz⟩ := Option.map_eq_some_iff.1 hinfo
 simp only [Prod.mk.injEq] at hzz
 obtain ⟨hz0, hz1, hz2⟩ := hzz
 have hlen : n + 1 ≤ 140737488355328 := Nat.le_trans (Nat.le_mul_of_pos_right _ hb0) hl
 refine wpListIn_append_own_at (W.alloc (.cells ys.toArray e)) hgd s x t ho base e i0 z size bytes ht hi hz0 hz1 hz2 hz hs0 v n xs hs (HO.alloc _) ⟨W.heap.size, 0, none⟩ 1 1 ys hx (by rw [hys]; simp)
  (by simpa using World.news_of_block (cs := ys.toArray) (t := e) (fr := (0, 0)) (heap_alloc_new W (.cells ys.toArray e))) h1 (by simp only [maxLen]; omega) hl (by simp; omega) ?_
 intro v1 w1 hown hg _ hat
 refine h v1 w1 hown (World.grownBy.trans (World.grownBy_alloc W _ _) hg) ?_
 rcases hat with hat | hat
 ·exact .inl hat
 ·exact .inr ⟨_, hat, by simp⟩
theorem R_appendIn (d : Kd α) {W : World} (base : Nat) (hgd : o.guard = none) (s x : Operand) (t e : TypeId) (z : Value) (bytes : Nat)
  (ho : o.op = .call { callee := .builtin .append, args := #[s, x], argTypes := #[t, t] })
  (ht : P.underlying t = some (.slice e)) (hinfo : (P.info? e).map (fun i => (i.zero, i.size, i.bytes)) = some (some z, d.sz, bytes)) (hz : z.cells.size = d.sz) (hs0 : 0 < d.sz) (hb0 : 0 < bytes)
  (v : Value) (xs : List α) (p : α) (cs : List Value) (ok okp : Nat → Prop) (hs : a.eval s = v) (hx : a.eval x = .slice (some ⟨W.heap.size, 0, none⟩) 1 1) (hp : d.M W base okp p cs) (hokp : ∀ k, okp k → ok k ∧ some k ≠ v.ownBlock) (hfresh : ∀ k, W.heap.size ≤ k → ok k)
  (HO : d.R e W base ok v xs) (hbase : base ≤ W.heap.size) (hl : (xs.length + 1) * bytes ≤ 140737488355328)
  (h : ∀ v1 w1, d.R e w1 base ok v1 (xs ++ [p]) → W.grownBy w1 v.ownBlock → (v1.ownBlock = v.ownBlock ∨ ∃ b, v1.ownBlock = some b ∧ W.heap.size ≤ b) → wpListIn F nF P ops Q rest (a.put o.dst v1) w1) :
  wpListIn F nF P ops Q (o :: rest) a (W.alloc (.cells cs.toArray e)) := by
 obtain ⟨h0, inner, hown, hr⟩ := HO
 refine append_cellsIn base hgd s x t e z d.sz bytes ho ht hinfo hz hs0 hb0 v xs.length inner cs hs hx (d.K_len (d.K_of_M hp)) (d.K_one (d.K_of_M hp)) hown hbase hl ?_
 intro v1 w1 hown1 hg1 hat1
 exact h v1 w1 (Kd.R_appended h0 hr hp hokp hfresh hown1 hg1 hat1) hg1 hat1
end
def HoldR (B : Nat) (xs : List S_R) (W : World) : Prop := ∃ v, Boxed W B 48 v ∧ Kd.R k58 58 W B (fun k => k ≠ B) v xs
theorem HoldR.below {B : Nat} {xs : List S_R} {W W1 : World} (h : HoldR B xs W) (hb : Below W.heap.size W W1) : HoldR B xs W1 := by
 obtain ⟨v, hB, hR⟩ := h
 exact ⟨v, blk_below hB hb, Kd.R_below hR hb⟩
theorem HoldR.own {β : Type} (b B : Nat) (f : β → List S_R) : OwnFrom b (fun pre W => HoldR B (f pre) W) := by
 rintro s W W' row ⟨v, hB, hR⟩ hg hr
 refine ⟨v, (boxed_own B 48 (fun (_ : Unit) => v)) () W W' row hB hg (fun r e => (hr r e).2), ?_⟩
 refine Kd.R_mono (Kd.R_grown (Kd.R_bound hR) hg (fun k hk e => ?_)) (fun k hk => hk.1)
 obtain ⟨_, _, _, q, _, cells, hc⟩ := hk
 obtain ⟨_, o, ho, hn⟩ := hr k e.symm
 rw [hc] at ho
 cases ho
 cases hn
theorem KpB.call {n0 B : Nat} {W W1 : World} (hn : n0 ≤ W.heap.size) (hB : B < W.heap.size) (hb : Below W.heap.size W W1) : KpB n0 B W W1 := by
 have e : ownB B W1 = ownB B W := ownB_other (hb.block B hB)
 refine ⟨hb.mono hn, hb.size, fun g b h => ?_, fun k cs t hk _ _ => (hb.block k (blk_lt hk)).trans hk, .inl e⟩
 rw [e] at h
 exact Nat.lt_of_lt_of_le (g b h) hb.size
theorem ownB_boxed {B : Nat} {t : TypeId} {v : Value} {W : World} (h : Boxed W B t v) : ownB B W = v.ownBlock := by
 unfold ownB
 rw [h.cell]
theorem KpB.app {n0 B : Nat} {t : TypeId} {v v1 : Value} {W w1 : World} (hn : n0 ≤ B) (hb : Boxed W B t v) (hg : W.grownBy w1 v.ownBlock) (hv : ∀ k, v.ownBlock = some k → B ≤ k ∧ k ≠ B)
  (hlt : ∀ k, v1.ownBlock = some k → k < w1.heap.size) (hat : v1.ownBlock = v.ownBlock ∨ ∃ b, v1.ownBlock = some b ∧ W.heap.size ≤ b) : KpB n0 B W (w1.setCell ⟨B, 0, none⟩ v1) := by
 have hB1 : Boxed w1 B t v := blk_grown hb hg (fun e => (hv B e.symm).2 rfl)
 have e1 : ownB B (w1.setCell ⟨B, 0, none⟩ v1) = v1.ownBlock := ownB_boxed (hB1.set v1)
 have hlB := hb.lt
 refine ⟨((Below.refl n0 W).grown hg (by omega) (fun k e => Nat.le_trans hn (hv k e).1)).setCell (p := ⟨B, 0, none⟩) hn _, by simpa using hg.size, fun _ b h => ?_, fun k cs t hk hkB ho => ?_, ?_⟩
 ·rw [e1] at h
  simpa using hlt b h
 ·rw [ownB_boxed hb] at ho
  exact (Below.heap_setCell w1 ⟨B, 0, none⟩ v1 k hkB).trans ((hg.block k (blk_lt hk) ho).trans hk)
 ·rw [e1, ownB_boxed hb]
  exact hat
theorem KeepsOthers.call {W W1 : World} (hb : Below W.heap.size W W1) : KeepsOthers W W1 := ⟨hb.size, fun k o hk _ => (hb.block k (Array.getElem?_eq_some_iff.1 hk).1).trans hk⟩
def rcS (n : Nd) : S_R := ⟨(fR n).t, (fR n).l, (fR n).o, (fR n).r⟩
instance : DecidableEq S_R := fun a b => decidable_of_iff (a.f0 = b.f0 ∧ a.f1 = b.f1 ∧ a.f2 = b.f2 ∧ a.f3 = b.f3) ⟨fun h => by cases a; cases b; simp only at h; obtain ⟨rfl, rfl, rfl, rfl⟩ := h; rfl, fun h => by subst h; exact ⟨rfl, rfl, rfl, rfl⟩⟩
def addS (out : List S_R) (n : Nd) : List S_R := if rgB n = true then (if rcS n ∈ out then out else out ++ [rcS n]) else out
def outS (l : List Nd) : List S_R := l.foldl addS []
theorem outS_snoc (l : List Nd) (n : Nd) : outS (l ++ [n]) = addS (outS l) n := by simp [outS]
theorem addS_length (out : List S_R) (n : Nd) : (addS out n).length ≤ out.length + 1 := by
 unfold addS
 repeat' split
 all_goals simp
theorem outS_length (l : List Nd) : (outS l).length ≤ l.length := by
 have : ∀ (l : List Nd) (o : List S_R), (l.foldl addS o).length ≤ o.length + l.length := by
  intro l
  induction l with
  | nil => intro o; simp
  | cons x r ih =>
   intro o
   have h1 := ih (addS o x)
   have h2 := addS_length o x
   simp only [List.foldl_cons, List.length_cons]
   omega
 simpa [outS] using this l []
end Go.Proofs.YtopdjokncbpghaaGreatDoor.Pr
end
section
namespace Go.Proofs.YtopdjokncbpghaaGreatDoor.Pr
open Go.RowKit Go.Proofs.YtopdjokncbpghaaGreatDoorW.PrintWords Go.Proofs.YtopdjokncbpghaaGreatDoorW.PrintLast Go.Proofs.YtopdjokncbpghaaGreatDoorW.PrintMore
structure FRow where
 lo : Int
 hi : Int
 wants : List Int
 deriving DecidableEq
def wantI (b : UInt8) : Int := if b = 86 then 1 else if b = 82 then 2 else 3
def argsL (LB : Nd → Bool) (W : List Int) : List Nd → Nat → Bool
 | [], _ => false
 | x :: r, i => (W.getD (min i (W.length - 1)) 0 == 2 && (!(rgB x) && !(LB x))) || argsL LB W r (i + 1)
def calledR (LB : Nd → Bool) (f : Option FRow) (l : List Nd) : Int :=
 match f with
 | none => 8
 | some f => if (l.length : Int) < f.lo ∨ (l.length : Int) > f.hi then 10 else if argsL LB f.wants l 0 = true then 2 else 0
def callE (T : ByteArray → Option FRow) (LB : Nd → Bool) (n : Nd) : Int := if n.f0 = 6 then calledR LB (T n.f4) n.f5 else 0
mutual
def callsS (F : Nd → Int) : Nd → Int
 | ⟨a, v, c, t, s, l⟩ => if F ⟨a, v, c, t, s, l⟩ = 0 then callsL F l else F ⟨a, v, c, t, s, l⟩
def callsL (F : Nd → Int) : List Nd → Int
 | [] => 0
 | x :: r => if callsS F x = 0 then callsL F r else callsS F x
end
theorem callsS_eq (F : Nd → Int) (n : Nd) : callsS F n = if F n = 0 then callsL F n.f5 else F n := by cases n; rw [callsS]
def firstE (F : Nd → Int) : List Nd → Int
 | [] => 0
 | x :: r => if F x = 0 then firstE F r else F x
theorem firstE_append (F : Nd → Int) : ∀ l m : List Nd, firstE F (l ++ m) = if firstE F l = 0 then firstE F m else firstE F l
 | [], m => by simp [firstE]
 | x :: r, m => by
  rw [List.cons_append, firstE, firstE, firstE_append F r m]
  by_cases h : F x = 0
  ·rw [if_pos h, if_pos h]
  ·rw [if_neg h, if_neg h, if_neg h]
mutual
theorem calls_first (F : Nd → Int) : ∀ n : Nd, callsS F n = firstE F (preN n)
 | ⟨a, v, c, t, s, l⟩ => by rw [callsS, preN, firstE, callsL_first F l]
theorem callsL_first (F : Nd → Int) : ∀ l : List Nd, callsL F l = firstE F (preL l)
 | [] => by rw [callsL, preL, firstE]
 | x :: r => by rw [callsL, preL, firstE_append, calls_first F x, callsL_first F r]
end
theorem firstE_congr {F G : Nd → Int} : ∀ l : List Nd, (∀ x ∈ l, F x = G x) → firstE F l = firstE G l
 | [], _ => rfl
 | x :: r, h => by rw [firstE, firstE, h x (List.mem_cons_self ..), firstE_congr r (fun y hy => h y (List.mem_cons_of_mem _ hy))]
theorem firstE_zero {F : Nd → Int} : ∀ l : List Nd, firstE F l = 0 ↔ ∀ x ∈ l, F x = 0
 | [] => by simp [firstE]
 | x :: r => by
  rw [firstE]
  by_cases h : F x = 0
  ·rw [if_pos h, firstE_zero r]; simp [h]
  ·rw [if_neg h]; simp [h]
mutual
/-- what all nodes are, each of the walk is. -/
theorem allS_mem (C : Nd → Bool) : ∀ n : Nd, allS C n = true → ∀ x ∈ preN n, C x = true
 | ⟨a, v, c, t, s, l⟩, h, x, hx => by
  rw [allS, Bool.and_eq_true] at h
  rw [preN, List.mem_cons] at hx
  rcases hx with rfl | hx
  ·exact h.1
  ·exact allL_mem C l h.2 x hx
theorem allL_mem (C : Nd → Bool) : ∀ l : List Nd, allL C l = true → ∀ x ∈ preL l, C x = true
 | [], _, x, hx => by rw [preL] at hx; cases hx
 | y :: r, h, x, hx => by
  rw [allL, Bool.and_eq_true] at h
  rw [preL, List.mem_append] at hx
  rcases hx with hx | hx
  ·exact allS_mem C y h.1 x hx
  ·exact allL_mem C r h.2 x hx
end
theorem pre_kid {n : Nd} {k : Nat} (hk : k < n.f5.length) : ∀ x ∈ preN n.f5[k], x ∈ preN n := by
 intro x hx
 rw [preN_eq, preL_split n.f5 k hk]
 simp [hx]
mutual
/-- the kids of a node of the walk are of the walk. -/
theorem pre_mem {x y : Nd} : ∀ {n : Nd}, x ∈ preN n → y ∈ x.f5 → y ∈ preN n
 | ⟨a, v, c, t, s, l⟩, hx, hy => by
  rw [preN, List.mem_cons] at hx
  rw [preN, List.mem_cons]
  rcases hx with rfl | hx
  ·refine .inr ?_
   obtain ⟨k, hk, rfl⟩ := List.getElem_of_mem hy
   rw [preL_split _ k hk, List.mem_append, List.mem_append, preN_eq]
   exact .inr (.inl (List.mem_cons_self ..))
  ·exact .inr (preL_mem hx hy)
theorem preL_mem {x y : Nd} : ∀ {l : List Nd}, x ∈ preL l → y ∈ x.f5 → y ∈ preL l
 | [], hx, _ => by rw [preL] at hx; cases hx
 | z :: r, hx, hy => by
  rw [preL, List.mem_append] at hx ⊢
  exact hx.imp (fun h => pre_mem h hy) (fun h => preL_mem h hy)
end
def callB (name : ByteArray) (n : Nd) : Bool := n.f0 == 6 && n.f4.data.toList == name.data.toList
theorem callB_ne {name : ByteArray} {n : Nd} (h : ¬n.f4 = name) : callB name n = false := by
 unfold callB
 rw [beq_eq_false_iff_ne.2 (fun e => h (ByteArray.ext (Array.toList_inj.1 e)) : n.f4.data.toList ≠ name.data.toList), Bool.and_false]
mutual
def usesS (F : Nd → Bool) : Nd → Bool
 | ⟨a, v, c, t, s, l⟩ => F ⟨a, v, c, t, s, l⟩ || usesL F l
def usesL (F : Nd → Bool) : List Nd → Bool
 | [] => false
 | x :: r => usesS F x || usesL F r
end
theorem usesS_eq (F : Nd → Bool) (n : Nd) : usesS F n = (F n || usesL F n.f5) := by cases n; rw [usesS]
mutual
theorem uses_any (F : Nd → Bool) : ∀ n : Nd, usesS F n = (preN n).any F
 | ⟨a, v, c, t, s, l⟩ => by rw [usesS, preN, List.any_cons, usesL_any F l]
theorem usesL_any (F : Nd → Bool) : ∀ l : List Nd, usesL F l = (preL l).any F
 | [] => by rw [usesL, preL, List.any_nil]
 | x :: r => by rw [usesL, preL, List.any_append, uses_any F x, usesL_any F r]
end
def foldR (out : List S_R) (l : List Nd) : List S_R := l.foldl addS out
theorem foldR_append (out : List S_R) (l m : List Nd) : foldR out (l ++ m) = foldR (foldR out l) m := by unfold foldR; rw [List.foldl_append]
theorem foldR_pre (out : List S_R) (n : Nd) : foldR out (preN n) = foldR (addS out n) (preL n.f5) := by rw [preN_eq]; rfl
theorem foldR_take (out : List S_R) (l : List Nd) (k : Nat) (h : k < l.length) : foldR out (preL (l.take (k + 1))) = foldR (foldR out (preL (l.take k))) (preN l[k]) := by rw [preL_take_succ l k h, foldR_append]
theorem foldR_length (l : List Nd) : ∀ out : List S_R, (foldR out l).length ≤ out.length + l.length := by
 induction l with
 | nil => intro o; simp [foldR]
 | cons x r ih =>
  intro o
  have h1 := ih (addS o x)
  have h2 := addS_length o x
  simp only [foldR, List.foldl_cons, List.length_cons] at h1 ⊢
  omega
abbrev S_G := S68
abbrev S_W := S76
theorem bt_n9 (s : ByteArray) (i : Nat) (h : i < s.data.toList.length) : bt s (i : Int) = ((s.data.toList[i]).toNat : Int) := by
 have h2 : i < s.size := by rw [Array.length_toList] at h; exact h
 unfold bt
 rw [Int.toNat_natCast, dif_pos h2]
 rfl
def wantsB (s : ByteArray) : List Int := s.data.toList.map wantI
def fieldsB (s : ByteArray) : List ByteArray := (Lib.fields s.data.toList).map fun l => ⟨l.toArray⟩
def inB9 (l : List ByteArray) (x : ByteArray) : Bool := l.any fun y => x.data.toList == y.data.toList
theorem toL_eq (x y : ByteArray) : (x.toList = y.toList) ↔ (x.data.toList == y.data.toList) = true := by
 rw [ByteArray.toList_eq, ByteArray.toList_eq, beq_iff_eq]
theorem rd9 (l : List ByteArray) (i : Nat) (h : i < l.length) : rdOf ByteArray.empty l (i : Int) = l[i] := by
 unfold rdOf
 rw [Int.toNat_natCast, List.getD_eq_getElem?_getD, List.getElem?_eq_getElem h]; rfl
theorem rdG (l : List S_G) (i : Nat) (h : i < l.length) : rd_T68 l (i : Int) = l[i] := by
 unfold rd_T68
 rw [Int.toNat_natCast, List.getD_eq_getElem?_getD, List.getElem?_eq_getElem h]; rfl
theorem rdW (l : List S_W) (i : Nat) (h : i < l.length) : rd_T76 l (i : Int) = l[i] := by
 unfold rd_T76
 rw [Int.toNat_natCast, List.getD_eq_getElem?_getD, List.getElem?_eq_getElem h]; rfl
theorem wr1 (i : Nat) (h : i < 1000000) : wrap64 ((i : Int) + 1) = ((i + 1 : Nat) : Int) := by unfold wrap64; omega
theorem index9 (l : List ByteArray) (x : ByteArray) (hl : l.length < 1000000) : ∀ (k i : Nat), i ≤ l.length → l.length < i + k →
  ∃ r, slices_Index_string_string.l0 k l x (l.length : Int) (i : Int) = some r ∧ decide (r ≥ 0) = inB9 (l.drop i) x
 | 0, i, hi, h => by exfalso; omega
 | k + 1, i, hi, h => by
  rw [slices_Index_string_string.l0]
  by_cases h1 : i < l.length
  ·rw [if_pos (by omega), if_pos (by omega), if_pos (by omega), rd9 l i h1, wr1 i (by omega), List.drop_eq_getElem_cons h1]
   by_cases hq : x.toList = l[i].toList
   ·rw [if_pos hq]
    refine ⟨_, rfl, ?_⟩
    rw [decide_eq_true (by omega)]
    unfold inB9
    rw [List.any_cons, (toL_eq _ _).1 hq]; rfl
   ·rw [if_neg hq]
    obtain ⟨r, e1, e2⟩ := index9 l x hl k (i + 1) (by omega) (by omega)
    refine ⟨r, e1, e2.trans ?_⟩
    unfold inB9
    rw [List.any_cons, Bool.eq_false_iff.2 (fun e => hq ((toL_eq _ _).2 e)), Bool.false_or]
  ·rw [if_neg (by omega), List.drop_of_length_le (by omega)]
   exact ⟨_, rfl, rfl⟩
theorem contains9 (l : List ByteArray) (x : ByteArray) (k : Nat) (hl : l.length < 1000000) (hk : l.length < k) : slices_Contains_string_string.f k l x = some (inB9 l x) := by
 obtain ⟨r, e1, e2⟩ := index9 l x hl k 0 (Nat.zero_le _) (by omega)
 unfold slices_Contains_string_string.f slices_Index_string_string.f
 have e0 : slices_Index_string_string.l0 k l x (l.length : Int) 0 = some r := e1
 rw [e0, Option.bind_some, e2, List.drop_zero]
theorem wantI_cases (b : UInt8) : (b.toNat : Int) = 86 ↔ b = 86 := by
 constructor
 ·intro h
  have : b.toNat = 86 := by omega
  exact UInt8.toNat_inj.1 this
 ·rintro rfl; rfl
theorem wantI_cases2 (b : UInt8) : (b.toNat : Int) = 82 ↔ b = 82 := by
 constructor
 ·intro h
  have : b.toNat = 82 := by omega
  exact UInt8.toNat_inj.1 this
 ·rintro rfl; rfl
theorem form9 (a0 : ByteArray) (a1 a2 : Int) (s name : ByteArray) (hs : s.size ≤ 100) : ∀ (k i : Nat) (acc : List Int), i ≤ s.size → acc.length ≤ i → s.size < i + k →
  forms_group_form.l0 k (s.size : Int) (i : Int) a0 a1 a2 s name a1 a2 acc = some (name, a1, a2, acc ++ ((s.data.toList.drop i).map wantI))
 | 0, i, acc, hi, ha, h => by exfalso; omega
 | k + 1, i, acc, hi, ha, h => by
  have hsz : s.data.toList.length = s.size := Array.length_toList
  rw [forms_group_form.l0]
  by_cases h1 : i < s.size
  ·have hd : s.data.toList.drop i = s.data.toList[i]'(by omega) :: s.data.toList.drop (i + 1) := List.drop_eq_getElem_cons (by omega)
   rw [if_pos (by omega), if_pos (by omega), if_pos (by omega), bt_n9 s i (by omega), wr1 i (by omega), hd, List.map_cons]
   generalize s.data.toList[i]'(by omega) = b
   have hlen : acc.length < 17592186044416 := by omega
   by_cases q : b = 86
   ·rw [if_pos ((wantI_cases b).2 q), if_pos hlen, form9 a0 a1 a2 s name hs k (i + 1) _ (by omega) (by simp; omega) (by omega), show wantI b = 1 by unfold wantI; rw [if_pos q]]; simp
   ·rw [if_neg (fun e => q ((wantI_cases b).1 e))]
    by_cases q2 : b = 82
    ·rw [if_pos ((wantI_cases2 b).2 q2), if_pos hlen, form9 a0 a1 a2 s name hs k (i + 1) _ (by omega) (by simp; omega) (by omega), show wantI b = 2 by unfold wantI; rw [if_neg q, if_pos q2]]; simp
    ·rw [if_neg (fun e => q2 ((wantI_cases2 b).1 e)), if_pos hlen, form9 a0 a1 a2 s name hs k (i + 1) _ (by omega) (by simp; omega) (by omega), show wantI b = 3 by unfold wantI; rw [if_neg q, if_neg q2]]; simp
  ·rw [if_neg (by omega), List.drop_of_length_le (by omega)]
   simp
def foundR (name : ByteArray) (f : Option FRow) : ByteArray × Int × Int × List Int × Int := match f with
 | some f => (name, f.lo, f.hi, f.wants, 0)
 | none => ((⟨#[]⟩ : ByteArray), 0, 0, [], 8)
def rowG (g : S_G) : FRow := ⟨g.f1, g.f2, wantsB g.f3⟩
def rowW (g : S_W) : FRow := ⟨g.f1, g.f2, wantsB g.f3⟩
def okG (g : S_G) : Bool := decide (g.f0.size < 1000) && (g.f0.data.toList.all (fun b => decide (b.toNat < 128)) && (decide ((Lib.fields g.f0.data.toList).length ≤ 30) && decide (g.f3.size ≤ 10)))
def okW (g : S_W) : Bool := ((foolscapref09_words.f 400 g.f0).map (·.map (·.data.toList)) == some (Lib.fields g.f0.data.toList)) && (decide ((Lib.fields g.f0.data.toList).length ≤ 30) && decide (g.f3.size ≤ 10))
def groupsC : List S_G := forms_groups.f.getD []
def tableC : List S_W := foolscapref09_table.f.getD []
theorem groupsC_eq : forms_groups.f = some groupsC := rfl
theorem tableC_eq : foolscapref09_table.f = some tableC := rfl
theorem groupsC_ok : (groupsC.all okG && decide (groupsC.length = 25)) = true := by decide +kernel
theorem tableC_ok : (tableC.all okW && decide (tableC.length = 20)) = true := by decide +kernel
def findG (G : List S_G) (name : ByteArray) : Option FRow := (G.find? fun g => inB9 (fieldsB g.f0) name).map rowG
def findW (G : List S_W) (name : ByteArray) : Option FRow := (G.find? fun g => inB9 (fieldsB g.f0) name).map rowW
theorem find9 (G : List S_G) (name : ByteArray) (hG : G.all okG = true) (hl : G.length ≤ 1000) : ∀ (k i : Nat), i ≤ G.length → G.length + 50 < i + k →
  forms_Find.l0 k name G (G.length : Int) (i : Int) = some (foundR name (findG (G.drop i) name))
 | 0, i, hi, h => by exfalso; omega
 | k + 1, i, hi, h => by
  rw [forms_Find.l0]
  by_cases h1 : i < G.length
  ·have hg := List.all_eq_true.1 hG _ (List.getElem_mem h1)
   unfold okG at hg
   simp only [Bool.and_eq_true, decide_eq_true_eq] at hg
   obtain ⟨g0, g1, g2, g3⟩ := hg
   rw [if_pos (by omega), if_pos (by omega), if_pos (by omega), rdG G i h1, List.drop_eq_getElem_cons h1]
   generalize G[i] = g at g0 g1 g2 g3
   have hf : strings_Fields.f g.f0 = some (fieldsB g.f0) := by unfold strings_Fields.f; rw [if_pos ⟨by omega, g1, by omega⟩]; rfl
   have hfl : (fieldsB g.f0).length ≤ 30 := by unfold fieldsB; rw [List.length_map]; exact g2
   rw [hf, Option.bind_some, contains9 _ name k (by omega) (by omega), Option.bind_some]
   unfold findG
   rw [List.find?_cons]
   by_cases hc : inB9 (fieldsB g.f0) name = true
   ·rw [if_pos hc, hc]
    unfold forms_group_form.f
    rw [show (0 : Int) = ((0 : Nat) : Int) from rfl, form9 g.f0 g.f1 g.f2 g.f3 name (by omega) k 0 [] (Nat.zero_le _) (Nat.zero_le _) (by omega), Option.bind_some]
    rfl
   ·rw [if_neg hc, Bool.eq_false_iff.2 hc, wr1 i (by omega)]
    exact find9 G name hG hl k (i + 1) (by omega) (by omega)
  ·rw [if_neg (by omega), List.drop_of_length_le (by omega)]
   rfl
def findT (name : ByteArray) : Option FRow := findG groupsC name
theorem find_is (name : ByteArray) : forms_Find.f 100 name = some (foundR name (findT name)) := by
 have h := groupsC_ok
 rw [Bool.and_eq_true, decide_eq_true_eq] at h
 unfold forms_Find.f
 rw [groupsC_eq, Option.bind_some, show (0 : Int) = ((0 : Nat) : Int) from rfl, find9 groupsC name h.1 (by omega) 100 0 (Nat.zero_le _) (by omega)]
 rfl
theorem want9 (b : UInt8) : foolscapref09_want.f (b.toNat : Int) = some (wantI b) := by
 unfold foolscapref09_want.f wantI
 by_cases q : b = 86
 ·rw [if_pos ((wantI_cases b).2 q), if_pos q]
 ·rw [if_neg (fun e => q ((wantI_cases b).1 e)), if_neg q]
  by_cases q2 : b = 82
  ·rw [if_pos ((wantI_cases2 b).2 q2), if_pos q2]
  ·rw [if_neg (fun e => q2 ((wantI_cases2 b).1 e)), if_neg q2]
theorem ref_l2 (G : List S_W) (i : Nat) (h1 : i < G.length) (name : ByteArray) (lo hi : Int) (hs : G[i].f3.size ≤ 100) : ∀ (k j : Nat) (acc : List Int), j ≤ G[i].f3.size → acc.length ≤ j → G[i].f3.size < j + k →
  foolscapref09_Find.l2 k G (i : Int) (j : Int) name lo hi acc = some (name, lo, hi, acc ++ ((G[i].f3.data.toList.drop j).map wantI), 0)
 | 0, j, acc, hj, ha, h => by exfalso; omega
 | k + 1, j, acc, hj, ha, h => by
  have hsz : G[i].f3.data.toList.length = G[i].f3.size := Array.length_toList
  rw [foolscapref09_Find.l2, if_pos (by omega), if_pos (by omega), rdW G i h1]
  by_cases h2 : j < G[i].f3.size
  ·have hd : G[i].f3.data.toList.drop j = G[i].f3.data.toList[j]'(by omega) :: G[i].f3.data.toList.drop (j + 1) := List.drop_eq_getElem_cons (by omega)
   rw [if_pos (by omega), if_pos (by omega), bt_n9 G[i].f3 j (by omega), want9, Option.bind_some, if_pos (by omega), wr1 j (by omega), hd, List.map_cons, ref_l2 G i h1 name lo hi hs k (j + 1) _ (by omega) (by simp; omega) (by omega)]
   simp
  ·rw [if_neg (by omega), List.drop_of_length_le (by omega)]
   simp
theorem words9 (g : S_W) (h : okW g = true) (k : Nat) (hk : 400 ≤ k) : foolscapref09_words.f k g.f0 = some (fieldsB g.f0) := by
 unfold okW at h
 simp only [Bool.and_eq_true, beq_iff_eq] at h
 have h0 := h.1
 cases hw : foolscapref09_words.f 400 g.f0 with
 | none => rw [hw] at h0; cases h0
 | some l =>
  rw [hw] at h0
  simp only [Option.map_some, Option.some.injEq] at h0
  have hl : l = fieldsB g.f0 := by
   unfold fieldsB
   rw [← h0, List.map_map]
   exact (List.map_id' l).symm
  rw [← hl]
  obtain ⟨d, rfl⟩ : ∃ d, k = 400 + d := ⟨k - 400, by omega⟩
  clear hk h h0 hl
  induction d with
  | zero => exact hw
  | succ d ih => exact foolscapref09_words.mono _ _ _ ih
mutual
theorem ref_l0 (G : List S_W) (name : ByteArray) (hG : G.all okW = true) (hl : G.length ≤ 1000) : ∀ (k i : Nat), i ≤ G.length → G.length * 40 + 500 < i * 40 + k →
  foolscapref09_Find.l0 k name G (i : Int) = some (foundR name (findW (G.drop i) name))
 | 0, i, hi, h => by exfalso; omega
 | k + 1, i, hi, h => by
  rw [foolscapref09_Find.l0]
  by_cases h1 : i < G.length
  ·have hg := List.all_eq_true.1 hG _ (List.getElem_mem h1)
   have hg2 := hg
   unfold okW at hg2
   simp only [Bool.and_eq_true, decide_eq_true_eq] at hg2
   have hfl : (fieldsB G[i].f0).length ≤ 30 := by unfold fieldsB; rw [List.length_map]; exact hg2.2.1
   rw [if_pos (by omega), if_pos (by omega), rdW G i h1, words9 _ hg k (by omega), Option.bind_some, show (0 : Int) = ((0 : Nat) : Int) from rfl, ref_l1 G name hG hl i h1 (fieldsB G[i].f0) hfl k 0 (Nat.zero_le _) (by omega), List.drop_zero, List.drop_eq_getElem_cons h1]
   unfold findW
   rw [List.find?_cons]
   by_cases hc : inB9 (fieldsB G[i].f0) name = true
   ·rw [if_pos hc, hc]; rfl
   ·rw [if_neg hc, Bool.eq_false_iff.2 hc]
  ·rw [if_neg (by omega), List.drop_of_length_le (by omega)]
   rfl
theorem ref_l1 (G : List S_W) (name : ByteArray) (hG : G.all okW = true) (hl : G.length ≤ 1000) (i : Nat) (h1 : i < G.length) (ns : List ByteArray) (hn : ns.length ≤ 30) : ∀ (k j : Nat), j ≤ ns.length → G.length * 40 + 500 + ns.length + 1 < (i + 1) * 40 + j + k →
  foolscapref09_Find.l1 k name G (i : Int) ns (j : Int) = some (if inB9 (ns.drop j) name = true then foundR name (some (rowW G[i])) else foundR name (findW (G.drop (i + 1)) name))
 | 0, j, hj, h => by exfalso; omega
 | k + 1, j, hj, h => by
  have hg := List.all_eq_true.1 hG _ (List.getElem_mem h1)
  unfold okW at hg
  simp only [Bool.and_eq_true, decide_eq_true_eq] at hg
  rw [foolscapref09_Find.l1]
  by_cases h2 : j < ns.length
  ·rw [if_pos (by omega), if_pos (by omega), rd9 ns j h2, List.drop_eq_getElem_cons h2]
   unfold inB9
   rw [List.any_cons]
   by_cases hq : ns[j].toList = name.toList
   ·rw [if_pos hq, if_pos (by omega), if_pos (by omega), (toL_eq _ _).1 hq.symm, Bool.true_or, if_pos rfl, rdW G i h1, show (0 : Int) = ((0 : Nat) : Int) from rfl, ref_l2 G i h1 name _ _ (by omega) k 0 [] (Nat.zero_le _) (Nat.zero_le _) (by omega)]
    rfl
   ·rw [if_neg hq, Bool.eq_false_iff.2 (fun e => hq ((toL_eq _ _).2 e).symm), Bool.false_or, wr1 j (by omega)]
    exact ref_l1 G name hG hl i h1 ns hn k (j + 1) (by omega) (by omega)
  ·rw [if_neg (by omega), List.drop_of_length_le (by omega), wr1 i (by omega), ref_l0 G name hG hl k (i + 1) (by omega) (by omega)]
   rfl
end
def keys9 : List (List UInt8) := groupsC.flatMap fun g => Lib.fields g.f0.data.toList
def lookG (L : List UInt8) : Option FRow := (groupsC.find? fun g => (Lib.fields g.f0.data.toList).any (L == ·)).map rowG
def lookW (L : List UInt8) : Option FRow := (tableC.find? fun g => (Lib.fields g.f0.data.toList).any (L == ·)).map rowW
theorem inB9_eq (s x : ByteArray) : inB9 (fieldsB s) x = (Lib.fields s.data.toList).any (x.data.toList == ·) := by
 unfold inB9 fieldsB
 rw [List.any_map]; rfl
theorem keys_same : (keys9.all fun L => lookG L == lookW L) = true := by decide +kernel
theorem keys_all : (tableC.all fun g => (Lib.fields g.f0.data.toList).all fun L => keys9.any (L == ·)) = true := by decide +kernel
theorem look_same (L : List UInt8) : lookG L = lookW L := by
 by_cases h : keys9.any (L == ·) = true
 ·obtain ⟨K, hK, e⟩ := List.any_eq_true.1 h
  obtain rfl := eq_of_beq e
  exact eq_of_beq (List.all_eq_true.1 keys_same _ hK)
 ·have hG : lookG L = none := by
   unfold lookG
   rw [Option.map_eq_none_iff, List.find?_eq_none]
   intro g hg hc
   apply h
   obtain ⟨K, hK, e⟩ := List.any_eq_true.1 hc
   exact List.any_eq_true.2 ⟨K, List.mem_flatMap.2 ⟨g, hg, hK⟩, e⟩
  have hW : lookW L = none := by
   unfold lookW
   rw [Option.map_eq_none_iff, List.find?_eq_none]
   intro g hg hc
   apply h
   obtain ⟨K, hK, e⟩ := List.any_eq_true.1 hc
   obtain rfl := eq_of_beq e
   exact List.all_eq_true.1 (List.all_eq_true.1 keys_all g hg) _ hK
  rw [hG, hW]
theorem find_same (name : ByteArray) : findW tableC name = findT name := by
 have e1 : findT name = lookG name.data.toList := by
  unfold findT findG lookG
  simp only [inB9_eq]
 have e2 : findW tableC name = lookW name.data.toList := by
  unfold findW lookW
  simp only [inB9_eq]
 rw [e1, e2, look_same]
theorem ref_find_is (name : ByteArray) : foolscapref09_Find.f 2000 name = some (foundR name (findT name)) := by
 have h := tableC_ok
 rw [Bool.and_eq_true, decide_eq_true_eq] at h
 unfold foolscapref09_Find.f
 rw [tableC_eq, Option.bind_some, show (0 : Int) = ((0 : Nat) : Int) from rfl, ref_l0 tableC name h.1 (by omega) 2000 0 (Nat.zero_le _) (by omega), List.drop_zero, find_same]
theorem rows_ok : (groupsC.all fun g => decide (0 ≤ g.f1) && (decide (g.f2 ≤ 0) || decide (1 ≤ g.f3.size))) = true := by decide +kernel
theorem findT_wants {name : ByteArray} {f : FRow} (h : findT name = some f) : 0 ≤ f.lo ∧ (f.hi ≤ 0 ∨ 1 ≤ f.wants.length) ∧ f.wants.length ≤ 10 := by
 unfold findT findG at h
 obtain ⟨g, hg, rfl⟩ := Option.map_eq_some_iff.1 h
 have hm := List.mem_of_find?_eq_some hg
 have h1 := List.all_eq_true.1 rows_ok g hm
 have h2 := groupsC_ok
 rw [Bool.and_eq_true] at h2
 have h3 := List.all_eq_true.1 h2.1 g hm
 unfold okG at h3
 simp only [Bool.and_eq_true, Bool.or_eq_true, decide_eq_true_eq] at h1 h3
 have hz : (wantsB g.f3).length = g.f3.size := by unfold wantsB; rw [List.length_map]; exact Array.length_toList
 refine ⟨h1.1, ?_, ?_⟩
 ·show g.f2 ≤ 0 ∨ 1 ≤ (wantsB g.f3).length
  rw [hz]; exact h1.2
 ·show (wantsB g.f3).length ≤ 10
  rw [hz]; exact h3.2.2.2
def lostB (n : Nd) : Bool := n.f0 == 1 && n.f1.f4 == 3
def lostR (n : Nd) : Bool := n.f0 == 1 && (n.f1.f0 == 4 && n.f1.f4 == 3)
theorem rd_wants (l : List Int) (i : Nat) : rd l (i : Int) = l.getD i 0 := by
 unfold rd
 rw [Int.toNat_natCast]
theorem lost_right (n : Nd) (h : rV n = true) : lostB n = lostR n := by
 unfold lostB lostR
 by_cases h1 : n.f0 = 1
 ·by_cases h4 : n.f1.f4 = 3
  ·have hk : n.f1.f0 = 4 := by
    have e := rV_eq n
    rw [h] at e
    unfold foolscapref04_Right.f at e
    rw [h4] at e
    by_cases k4 : n.f1.f0 = 4
    ·exact k4
    ·exfalso
     by_cases k0 : n.f1.f0 = 0
     ·rw [if_pos k0] at e; simp at e
     ·rw [if_neg k0] at e
      by_cases k1 : n.f1.f0 = 1
      ·rw [if_pos k1] at e
       obtain ⟨t, _, e⟩ := Option.bind_eq_some_iff.1 e
       split at e <;> simp at e
      ·rw [if_neg k1] at e
       by_cases k2 : n.f1.f0 = 2
       ·rw [if_pos k2] at e
        split at e <;> simp at e
       ·rw [if_neg k2] at e
        by_cases k3 : n.f1.f0 = 3
        ·rw [if_pos k3] at e; simp at e
        ·rw [if_neg k3, if_neg k4] at e; simp at e
   rw [hk, h1, h4]; rfl
  ·rw [beq_eq_false_iff_ne.2 h4]; simp
 ·rw [beq_eq_false_iff_ne.2 h1]; rfl
theorem argsL_congr {F G : Nd → Bool} (W : List Int) : ∀ (l : List Nd) (i : Nat), (∀ y ∈ l, F y = G y) → argsL F W l i = argsL G W l i
 | [], _, _ => rfl
 | x :: r, i, h => by rw [argsL, argsL, h x (List.mem_cons_self ..), argsL_congr W r (i + 1) (fun y hy => h y (List.mem_cons_of_mem _ hy))]
theorem calledR_congr {F G : Nd → Bool} (f : Option FRow) (l : List Nd) (h : ∀ y ∈ l, F y = G y) : calledR F f l = calledR G f l := by
 unfold calledR
 cases f with
 | none => rfl
 | some f => exact congrArg (fun b => if ((l.length : Int) < f.lo ∨ (l.length : Int) > f.hi) then (10 : Int) else if b = true then 2 else 0) (argsL_congr f.wants l 0 h)
theorem lost_of_right (y : Nd) (h : plainB y = true ∧ kindB rV rLN rNM foldB y = true) : lostB y = lostR y := by
 by_cases h1 : y.f0 = 1
 ·refine lost_right y ?_
  have := h.2
  unfold kindB at this
  simp [h1] at this
  exact this.2.1
 ·unfold lostB lostR
  rw [beq_eq_false_iff_ne.2 h1]; rfl
def FormOut (nm : ByteArray) (lo hi : Int) (W : List Int) (z : Int) (w : World) (e : Ending) (w' : World) : Prop :=
 ∃ A c, e = .returned (.tuple #[.agg #[.string nm, .int .i64 lo, .int .i64 hi, .slice A W.length c], .int .i64 z]) ∧ W.length ≤ c ∧ Kd.C (Kd.int .i64) w' A W.length W ∧ Below w.heap.size w w'
def FindOut (name : ByteArray) (f : Option FRow) (w : World) (e : Ending) (w' : World) : Prop :=
 match f with
 | some f => FormOut name f.lo f.hi f.wants 0 w e w'
 | none => FormOut (⟨#[]⟩ : ByteArray) 0 0 [] 8 w e w'
theorem findOut_of {go : Nat} {name : ByteArray} {f : Option FRow} {w : World} (h : Calls Tryz.prog go #[.string name] w fun e w' => ∃ v3_ : Value, e = .returned (.tuple #[.agg #[.string (foundR name f).1, .int .i64 (foundR name f).2.1, .int .i64 (foundR name f).2.2.1, v3_], .int .i64 (foundR name f).2.2.2.2]) ∧ Kd.R (Kd.int .i64) 62 w' w.heap.size (fun _ => True) v3_ (foundR name f).2.2.2.1 ∧ Below w.heap.size w w') :
  Calls Tryz.prog go #[.string name] w (FindOut name f w) := by
 refine h.mono ?_
 rintro e w' ⟨v, rfl, hR, hb⟩
 obtain ⟨A, c, rfl, hle, hC⟩ := Kd.R_reads hR
 cases f with
 | some f => exact ⟨A, c, rfl, hle, hC, hb⟩
 | none => exact ⟨A, c, rfl, hle, hC, hb⟩
theorem find_calls (name : ByteArray) (w : World) (hL0 : Aside0 (LaidW w)) : Calls Tryz.prog 10 #[.string name] w (FindOut name (findT name) w) :=
 findOut_of (forms_Find.calls 100 name _ _ _ _ _ w (find_is name) hL0)
theorem refFind_calls (name : ByteArray) (w : World) : Calls Tryz.prog 11 #[.string name] w (FindOut name (findT name) w) :=
 findOut_of (foolscapref09_Find.calls 2000 name _ _ _ _ _ w (ref_find_is name))
theorem lostR_calls (n : Nd) (A : Option Addr) (c : Nat) (w : World) (hK : KidsC w A c n.f5) :
  Calls Tryz.prog 59 #[nodeV n A c] w fun e w' => e = .returned (.bool (lostR n)) ∧ Below w.heap.size w w' := by
 refine foolscapref09_Lost.calls n.f0 n.f1.f0 n.f1.f1 n.f1.f2 n.f1.f3 n.f1.f4 n.f2.f0.f0 n.f2.f0.f1 n.f2.f1 n.f2.f2 n.f3.f0.f0 n.f3.f0.f1 n.f3.f1 n.f3.f2 n.f4 A c n.f5 (lostR n) w hK.2 hK.1 ?_
 unfold foolscapref09_Lost.f lostR
 by_cases h1 : n.f0 = 1
 ·rw [if_pos h1]
  by_cases h4 : n.f1.f0 = 4
  ·rw [if_pos h4]; simp [h1, h4]
  ·rw [if_neg h4]; simp [h4]
 ·rw [if_neg h1]; simp [h1]
theorem lostB_calls (n : Nd) (A : Option Addr) (c : Nat) (w : World) (hK : KidsC w A c n.f5) :
  Calls Tryz.prog 57 #[nodeV n A c] w fun e w' => e = .returned (.bool (lostB n)) ∧ Below w.heap.size w w' := by
 refine forms_lost.calls n.f0 n.f1.f0 n.f1.f1 n.f1.f2 n.f1.f3 n.f1.f4 n.f2.f0.f0 n.f2.f0.f1 n.f2.f1 n.f2.f2 n.f3.f0.f0 n.f3.f0.f1 n.f3.f1 n.f3.f2 n.f4 A c n.f5 (lostB n) w hK.2 hK.1 ?_
 unfold forms_lost.f lostB
 by_cases h1 : n.f0 = 1
 ·rw [if_pos h1]; simp [h1]
 ·rw [if_neg h1]; simp [h1]
end Go.Proofs.YtopdjokncbpghaaGreatDoor.Pr
end
section
namespace Go.Proofs.YtopdjokncbpghaaGreatDoor.Pr
open Go.RowKit Go.Shelf Go.Proofs.YtopdjokncbpghaaGreatDoorW.PrintWords Go.Proofs.YtopdjokncbpghaaGreatDoorW.PrintLast Go.Proofs.YtopdjokncbpghaaGreatDoorW.PrintMore
attribute [local go_sem] Oper.semAt_some
def callF (F : Nd → Int) (n : Nd) : Int := if n.f0 = 6 then F n else 0
theorem fcheck_go (F : Nd → Int) (n : Nd) (A : Option Addr) (c : Nat) (w : World) (hK : KidsC w A c n.f5)
  (HC : Aside0 (∀ W, Below w.heap.size w W → Calls Tryz.prog 34 #[nodeV n A c] W fun e w' => e = .returned (.int .i64 0) ∧ Below W.heap.size W w'))
  (HF : Aside0 (∀ (m : Nd) (A_ : Option Addr) (c_ : Nat) W, Below w.heap.size w W → KidsC W A_ c_ m.f5 → Calls Tryz.prog 36 #[nodeV m A_ c_] W fun e w' => e = .returned (.int .i64 (F m)) ∧ Below W.heap.size W w')) :
  CallsIn Fence.wide 5 Tryz.prog 15 #[nodeV n A c] w fun e w' => e = .returned (.int .i64 (firstE (callF F) (preN n))) ∧ Below w.heap.size w w' := by
 have HB := Aside0.mk (bel2 w (.cells (nodeA n A c) 44) (.cells #[.int .i64 0] 25))
 have B1 := Aside0.mk (blk_alloc (newBlk w (.cells (nodeA n A c) 44)) (.cells #[.int .i64 0] 25))
 have B3 := Aside0.mk (newBlk2 w (.cells (nodeA n A c) 44) (.cells #[.int .i64 0] 25))
 refine callsIn_of_wp_marks Tryz.func15 rfl trivial ?_ rfl
 simp only [Tryz.ntmps15, List.size_toArray, List.length_cons, List.length_nil, Nat.reduceAdd, Nat.reduceSub, Array.replicate_succ, Array.replicate_zero, List.push_toArray, List.append_toArray, List.nil_append, List.cons_append]
 gi_wp2_with (first
  | (refine wpPartLdIn 6 rfl rfl 44 (.tmp 1) rfl _ rfl _ (nodeA n A c) [] B1.out rfl Tryz.underlying44 rfl (by kernel_rfl) ?_)
  | ((try refine ⟨trivial, ?_⟩); gi_at_call 34; refine (callsIn_wide.2 (HC.out _ (bel2 w _ _))).mono ?_; rintro e w1 ⟨rfl, hb⟩; have HB1 := Aside0.mk (below_step HB.out hb); have C1 := Aside0.mk (blk_below B1.out hb); have C3 := Aside0.mk (blk_below B3.out hb); clear hb B1 B3 HB)
  | (refine wpPartLdIn 11 rfl rfl 44 (.tmp 1) rfl _ rfl _ (nodeA n A c) [] C1.out rfl Tryz.underlying44 rfl (by kernel_rfl) ?_)
  | ((try refine ⟨trivial, ?_⟩); gi_at_call 35; refine (callsIn_wide.2 (all_calls n A c _)).mono ?_; rintro e w2 ⟨rfl, rfl⟩))
 have bO : Boxed (w1.alloc (.cells (nodeA n A c) 44)) (w.heap.size + 1) 25 (.int .i64 0) := blk_alloc C3.out _
 have bN := newBlk w1 (.cells (nodeA n A c) 44)
 have hB0 : Below w.heap.size w (w1.alloc (.cells (nodeA n A c) 44)) := below_alloc HB1.out _
 have hsz : (w1.alloc (.cells (nodeA n A c) 44)).heap.size = w1.heap.size + 1 := by simp
 have hs2 : w.heap.size + 2 ≤ w1.heap.size := by have := blk_lt C3.out; omega
 obtain ⟨W0, hW0⟩ : ∃ W0, (w1.alloc (.cells (nodeA n A c) 44)) = W0 := ⟨_, rfl⟩
 rw [hW0] at bO bN hB0 hsz ⊢
 clear hW0
 have hg0 : GoodB (w.heap.size + 1) W0 := by
  intro b hb
  rw [ownB_boxed bO] at hb
  cases hb
 refine wpIn_rangeFunc_ownH rfl (by omega) (gf := 55) (lb := #[.pointer (some ⟨w1.heap.size, 0, none⟩)]) rfl trivial (enters_of Tryz.func55 (by kernel_rfl) rfl)
  (all_stops (w.heap.size + 1) w1.heap.size 4 w n A c W0 bN hK hB0 hg0 (by omega)) KpB.trans (fun W l o o' hl h hc hw => KpB.putObj (w := W0) (by omega) (by omega) W l o o' hl h hc hw) (Below.refl _ _) (fun _ => rfl)
  (fun pre W => (firstE (callF F) (pre.map NodeAt.nd) = 0) ∧ Boxed W (w.heap.size + 1) 25 (.int .i64 0) ∧ Below w.heap.size w W)
  (fun cd pre W => (cd = .ret ∧ ¬firstE (callF F) (pre.map NodeAt.nd) = 0) ∧ Boxed W (w.heap.size + 1) 25 (.int .i64 (firstE (callF F) (pre.map NodeAt.nd))) ∧ Below w.heap.size w W)
  (OwnFrom.and (ownFrom_pure _ _) (OwnFrom.and ((boxed_own _ _ (fun _ => Value.int .i64 0)).from _) (ownFrom_below (Nat.le_refl _) (by omega))))
  (fun cd => OwnFrom.and (ownFrom_pure _ _) (OwnFrom.and ((boxed_own _ _ (fun (pre : List (NodeAt w)) => Value.int .i64 (firstE (callF F) (pre.map NodeAt.nd)))).from _) (ownFrom_below (Nat.le_refl _) (by omega))))
  ⟨rfl, bO, hB0⟩
  (fun x a' W => ∃ Bx, W.heap[Bx]? = some (.cells (nodeA x.1.1 x.1.2.1 x.1.2.2) 44 (0, 0)) ∧ a' = { tmps := #[nodeV n A c, .pointer (some ⟨w.heap.size, 0, none⟩), .pointer (some ⟨w.heap.size + 1, 0, none⟩), .int .i64 0, .pointer (some ⟨Bx, 0, none⟩), undef, .agg (nodeA n A c), .int .i64 0, .int .i64 0, .bool false, undef, .agg (nodeA n A c), .func (.func 55) #[] #[.pointer (some ⟨w1.heap.size, 0, none⟩)], nodeV x.1.1 x.1.2.1 x.1.2.2, undef, undef, undef, undef, undef, undef, undef, undef], defers := [] })
  (fun x a' _ X Y row hs hg hr => by
   obtain ⟨Bx, h2, h3⟩ := hs
   refine ⟨Bx, blk_grown h2 hg (fun e => ?_), h3⟩
   obtain ⟨_, o, ho, hn⟩ := hr Bx e.symm
   rw [h2] at ho
   cases ho
   cases hn)
  ?assign ?body ?done ?stop
 case assign =>
  rintro l pre x W K ⟨hp, hO, hB1⟩ hK'
  gi_wp2
  have hlt := blk_lt hO
  exact hK' _ _ ((KeepsOthers.alloc _ _).from _) (KpB.alloc (by omega) hlt _) ⟨hp, blk_alloc hO _, below_alloc hB1 _⟩ ⟨W.heap.size, newBlk W _, rfl⟩
 case body =>
  rintro l pre x a' W hl ⟨r, hr⟩ ⟨hp, hO, hB1⟩ ⟨Bx, bX, rfl⟩ hlt
  have hsn : firstE (callF F) ((pre ++ [x]).map NodeAt.nd) = callF F x.1.1 := by
   rw [List.map_append, firstE_append, hp, if_pos rfl]
   show firstE (callF F) [x.1.1] = _
   rw [firstE, firstE]
   split <;> simp_all
  clear hlt
  obtain ⟨⟨m, A3, c3⟩, hx⟩ := x
  simp only at hx bX hsn ⊢
  have cX := fun (i : Nat) => blk_cell bX i
  have hlt := blk_lt hO
  have hbW := hB1
  have HX := Aside0.mk bX
  have HP := Aside0.mk (⟨hO, hB1⟩ : _ ∧ _)
  have HN := Aside0.mk hsn
  have HK := Aside0.mk (hx.below hB1)
  clear hsn hp hO hB1 bX
  by_cases hk : m.f0 = 6
  ·have k1 : (m.f0 != 6) = false := by simp [hk]
   have hv : callF F m = F m := by unfold callF; rw [if_pos hk]
   have HFm := Aside0.mk (HF.out m A3 c3)
   generalize hq : F m = q at HFm hv
   clear hk hq
   by_cases h0 : q = 0
   ·subst h0
    gi_wp2_with (first
     | (refine wpPartLdIn 17 rfl rfl 44 (.tmp 4) rfl _ rfl _ (nodeA m A3 c3) [] HX.out rfl Tryz.underlying44 rfl (by kernel_rfl) ?_)
     | ((try refine ⟨trivial, ?_⟩); gi_at_call 36; refine (CallsIn.inRound l (callsIn_wide.2 (HFm.out _ hbW HK.out))).mono ?_; rintro e V1 ⟨rfl, hb⟩; have K1 := Aside0.mk hb; clear hb))
    exact ⟨(KeepsOthers.call K1.out).from _, KpB.call hbW.size hlt K1.out, HN.out.trans hv, blk_below HP.out.1 K1.out, below_step hbW K1.out⟩
   ·have q1 : (q != 0) = true := by simp [h0]
    gi_wp2_with (first
     | (refine wpPartLdIn 17 rfl rfl 44 (.tmp 4) rfl _ rfl _ (nodeA m A3 c3) [] HX.out rfl Tryz.underlying44 rfl (by kernel_rfl) ?_)
     | ((try refine ⟨trivial, ?_⟩); gi_at_call 36; refine (CallsIn.inRound l (callsIn_wide.2 (HFm.out _ hbW HK.out))).mono ?_; rintro e V1 ⟨rfl, hb⟩; have K1 := Aside0.mk hb; have H1 := Aside0.mk (blk_below HP.out.1 hb); have cO := fun (i : Nat) => blk_cell H1.out i; have fO := fun (i : Nat) => blk_frozen H1.out i; clear hb))
    have e1 := HN.out.trans hv
    refine ⟨((KeepsOthers.call K1.out).trans (KeepsOthers.setCell _ _ _)).from _, ⟨rfl, by rw [e1]; exact h0⟩, ?_, (below_step hbW K1.out).setCell (p := ⟨w.heap.size + 1, 0, none⟩) (by show w.heap.size ≤ w.heap.size + 1; omega) _⟩
    rw [e1]
    exact (show Boxed _ _ _ _ from H1.out).set _
  ·have k1 : (m.f0 != 6) = true := by simp [hk]
   have hv : callF F m = 0 := by unfold callF; rw [if_neg hk]
   clear hk
   gi_wp2
   exact ⟨(KeepsOthers.refl _).from _, KpB.refl _ _ _, HN.out.trans hv, HP.out.1, HP.out.2⟩
 case done =>
  rintro D zs W hD hS ⟨hp, hO, hB1⟩ hKd
  rw [hS] at hp
  have cO := fun (i : Nat) => blk_cell hO i
  have fO := fun (i : Nat) => blk_frozen hO i
  gi_wp2
  have hK' := (KeepsOthers.setCell W ⟨w.heap.size + 1, 0, none⟩ (.int .i64 0)).same D _ hKd rfl
  refine ⟨by simp, .inl ⟨_, _, rfl, run_takeDeferred hK', ?_⟩⟩
  have hc5 := Boxed.cell ((boxed_own (w.heap.size + 1) 25 (fun (_ : Unit) => Value.int .i64 0)) () _ _ (some D) (hO.set (.int .i64 0)) (grownBy_putObj' _ D (.deferred none)) (fun r e => by cases e; exact ⟨_, hK', rfl⟩))
  refine ⟨.int .i64 0, ?_, by rw [hp], (hB1.setCell (p := ⟨w.heap.size + 1, 0, none⟩) (by show w.heap.size ≤ w.heap.size + 1; omega) _).trans (belowK_b (w := w) (Nat.le_refl _) _ D _ _ (by omega) hK' rfl rfl)⟩
  simp [results, Tryz.results15, go_sem, hc5]
 case stop =>
  rintro D cd pre W hD ⟨t, ht⟩ ⟨⟨rfl, hp⟩, hO, hB1⟩ hKd
  have hv : firstE (callF F) (preN n) = firstE (callF F) (pre.map NodeAt.nd) := by rw [← ht, firstE_append, if_neg hp]
  generalize firstE (callF F) (pre.map NodeAt.nd) = q at hO hv
  gi_wp2
  refine ⟨by simp, .inl ⟨_, _, rfl, run_takeDeferred hKd, ?_⟩⟩
  have hc5 := Boxed.cell ((boxed_own (w.heap.size + 1) 25 (fun (_ : Unit) => Value.int .i64 q)) () _ _ (some D) hO (grownBy_putObj' _ D (.deferred none)) (fun r e => by cases e; exact ⟨_, hKd, rfl⟩))
  refine ⟨.int .i64 q, ?_, by rw [hv], hB1.trans (belowK_b (w := w) (Nat.le_refl _) _ D _ _ (by omega) hKd rfl rfl)⟩
  simp [results, Tryz.results15, go_sem, hc5]
theorem fcheck_bad (n : Nd) (A : Option Addr) (c : Nat) (q : Int) (hq : ¬q = 0) (w : World)
  (HC : Aside0 (∀ W, Below w.heap.size w W → Calls Tryz.prog 34 #[nodeV n A c] W fun e w' => e = .returned (.int .i64 q) ∧ Below W.heap.size W w')) :
  Calls Tryz.prog 15 #[nodeV n A c] w fun e w' => e = .returned (.int .i64 q) ∧ Below w.heap.size w w' := by
 have HB := Aside0.mk (bel2 w (.cells (nodeA n A c) 44) (.cells #[.int .i64 0] 25))
 have B1 := Aside0.mk (blk_alloc (newBlk w (.cells (nodeA n A c) 44)) (.cells #[.int .i64 0] 25))
 have B3 := Aside0.mk (newBlk2 w (.cells (nodeA n A c) 44) (.cells #[.int .i64 0] 25))
 have q1 : (q != 0) = true := by simp [hq]
 go_enter Tryz.func15, Tryz.ntmps15
 go_wp2_with (first
  | ((with_reducible refine gate_dst (N := 6) rfl ?_); refine wpPartLd 6 rfl rfl 44 (.tmp 1) rfl _ rfl _ (nodeA n A c) [] B1.out rfl Tryz.underlying44 rfl (by kernel_rfl) ?_)
  | (go_at_call 34; (with_reducible refine (HC.out _ (bel2 w _ _)).mono ?_); rintro e w1 ⟨rfl, hb⟩; have HB1 := Aside0.mk (below_step HB.out hb); have C3 := Aside0.mk (blk_below B3.out hb); have cO := fun (i : Nat) => blk_cell C3.out i; have fO := fun (i : Nat) => blk_frozen C3.out i; clear hb))
 have hc5 := Boxed.cell (t := 25) ((show Boxed w1 (w.heap.size + 1) 25 (.int .i64 0) from C3.out).set (.int .i64 q))
 refine bodyPost_ret (v := .int .i64 q) ?_ rfl ⟨rfl, HB1.out.setCell (p := ⟨w.heap.size + 1, 0, none⟩) (by show w.heap.size ≤ w.heap.size + 1; omega) _⟩
 simp [results, Tryz.results15, go_sem, hc5]
end Go.Proofs.YtopdjokncbpghaaGreatDoor.Pr
end
section
namespace Go.Proofs.YtopdjokncbpghaaGreatDoor.Pr
open Go.RowKit Go.Proofs.YtopdjokncbpghaaGreatDoorW.PrintWords Go.Proofs.YtopdjokncbpghaaGreatDoorW.PrintLast Go.Proofs.YtopdjokncbpghaaGreatDoorW.PrintMore
mutual
/-- how high a formula stands. -/
def hgtS : Nd → Nat
 | ⟨_, _, _, _, _, l⟩ => 1 + hgtL l
def hgtL : List Nd → Nat
 | [] => 0
 | x :: r => max (hgtS x) (hgtL r)
end
theorem hgtS_eq (n : Nd) : hgtS n = 1 + hgtL n.f5 := by cases n; rw [hgtS]
theorem cntS_eq (n : Nd) : cntS n = 1 + cntL n.f5 := by cases n; rw [cntS]
mutual
theorem levels_min : ∀ (n : Nd) (m : Int), 0 ≤ m → levelsS n m = min (hgtS n : Int) (m + 1)
 | ⟨a, v, c, t, s, l⟩, m, h => by
  rw [levelsS, hgtS]
  by_cases h0 : m ≤ 0
  ·rw [if_pos h0]; omega
  ·rw [if_neg h0, levels_minL l m 0 (by omega) (by omega) (by omega)]; omega
theorem levels_minL : ∀ (l : List Nd) (m u : Int), 0 < m → 0 ≤ u → u ≤ m → levelsL l m u = min (max (hgtL l : Int) u) m
 | [], m, u, h, h0, h1 => by rw [levelsL, hgtL]; omega
 | x :: r, m, u, h, h0, h1 => by
  rw [levelsL, hgtL]
  by_cases hu : u < m
  ·rw [if_pos hu]
   have e := levels_min x (m - 1) (by omega)
   have hb := levelsS_bd x (m - 1) (by omega)
   by_cases hq : u < levelsS x (m - 1)
   ·rw [if_pos hq, levels_minL r m _ h (by omega) (by omega)]; omega
   ·rw [if_neg hq, levels_minL r m _ h (by omega) (by omega)]; omega
  ·rw [if_neg hu]; omega
end
mutual
theorem nodes_min : ∀ (n : Nd) (m : Int), 0 ≤ m → nodesS n m = min (cntS n : Int) (m + 1)
 | ⟨a, v, c, t, s, l⟩, m, h => by
  rw [nodesS, cntS, nodes_minL l m 1 h (by omega) (by omega)]; omega
theorem nodes_minL : ∀ (l : List Nd) (m a : Int), 0 ≤ m → 1 ≤ a → a ≤ m + 1 → nodesL l m a = min (a + (cntL l : Int)) (m + 1)
 | [], m, a, h, h0, h1 => by rw [nodesL, cntL]; omega
 | x :: r, m, a, h, h0, h1 => by
  rw [nodesL, cntL]
  by_cases hu : a ≤ m
  ·rw [if_pos hu]
   have e := nodes_min x (m - a) (by omega)
   have hb := nodesS_bd x (m - a) (by omega)
   rw [nodes_minL r m _ h (by omega) (by omega)]; omega
  ·rw [if_neg hu]; omega
end
theorem hgt_mem {x : Nd} : ∀ l : List Nd, x ∈ l → hgtS x ≤ hgtL l
 | [], h => by cases h
 | y :: r, h => by
  rw [hgtL]
  rcases List.mem_cons.1 h with rfl | h
  ·omega
  ·have := hgt_mem r h; omega
theorem cnt_mem {x : Nd} : ∀ l : List Nd, x ∈ l → cntS x ≤ cntL l
 | [], h => by cases h
 | y :: r, h => by
  rw [cntL]
  rcases List.mem_cons.1 h with rfl | h
  ·omega
  ·have := cnt_mem r h; omega
theorem check_kid {n x : Nd} (h : checkI n = 0) (hx : x ∈ n.f5) : checkI x = 0 := by
 have h1 := hgt_mem _ hx
 have h2 := cnt_mem _ hx
 have e1 := hgtS_eq n
 have e2 := cntS_eq n
 unfold checkI at h ⊢
 rw [levels_min n 160 (by omega), nodes_min n 4096 (by omega)] at h
 rw [levels_min x 160 (by omega), nodes_min x 4096 (by omega)]
 by_cases q1 : min (hgtS n : Int) (160 + 1) > 160
 ·rw [if_pos q1] at h; omega
 ·rw [if_neg q1] at h
  by_cases q2 : min (cntS n : Int) (4096 + 1) > 4096
  ·rw [if_pos q2] at h; omega
  ·rw [if_neg q2] at h
   by_cases q3 : rightS n = false
   ·rw [if_pos q3] at h; omega
   ·rw [if_neg q3] at h
    by_cases q4 : min (hgtS n : Int) (160 + 1) > 40
    ·rw [if_pos q4] at h; omega
    ·have hr : rightS n = true := by simpa using q3
     unfold rightS at hr
     have hk := (allS_kid hr).2 x hx
     rw [if_neg (by omega), if_neg (by omega), if_neg (by unfold rightS; simp [hk]), if_neg (by omega)]
theorem check_right {n : Nd} (h : checkI n = 0) : rightS n = true := (right_of_check h).1
end Go.Proofs.YtopdjokncbpghaaGreatDoor.Pr
end
