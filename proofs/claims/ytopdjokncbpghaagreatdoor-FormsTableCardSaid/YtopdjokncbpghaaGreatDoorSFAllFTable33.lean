/-
  Lemmas for the law FAllFTable.
-/
import Derived.Test.YtopdjokncbpghaaGreatDoorSFAllFTable27
import Derived.Test.YtopdjokncbpghaaGreatDoorSFAllFTable32
import Derived.Test.YtopdjokncbpghaaGreatDoorSFAllFTable22
import Derived.Test.YtopdjokncbpghaaGreatDoorSFAllFTable28
import Derived.Test.YtopdjokncbpghaaGreatDoorSFAllFTable29
import Derived.Test.YtopdjokncbpghaaGreatDoorSFAllFTable6
import Derived.Test.YtopdjokncbpghaaGreatDoorSFAllFTable30
import Derived.Test.YtopdjokncbpghaaGreatDoorSFAllFTable14
import Derived.Test.YtopdjokncbpghaaGreatDoorSFAllFTable31
import Derived.Maps.OwnIn
set_option maxHeartbeats 8000000
set_option maxRecDepth 100000
set_option linter.unusedVariables false
set_option linter.unusedSimpArgs false
section
namespace Go.Proofs.YtopdjokncbpghaaGreatDoor.Pr
open Go.RowKit Go.Shelf Go.Proofs.YtopdjokncbpghaaGreatDoorW.PrintWords Go.Proofs.YtopdjokncbpghaaGreatDoorW.PrintLast Go.Proofs.YtopdjokncbpghaaGreatDoorW.PrintMore
abbrev S_R := S58
theorem contains_l0 (l : List S_R) (x : S_R) (hl : l.length < 4611686018427387904) : ∀ (k i : Nat), i ≤ l.length → l.length - i < k →
  ∃ r, api_Rect_60.l0 k l (l.length : Int) (i : Int) x.f0 x.f1 x.f2 x.f3 = some r ∧ (r ≥ 0 ↔ x ∈ l.drop i)
 | 0, i, _, h => by omega
 | k + 1, i, hi, h => by
  unfold api_Rect_60.l0
  by_cases hlt : i < l.length
  ·rw [if_pos (by omega), if_pos (by omega), if_pos (by omega)]
   have hg : rd_T58 l (i : Int) = l[i] := by
    unfold rd_T58
    rw [Int.toNat_natCast, List.getD_eq_getElem?_getD, List.getElem?_eq_getElem hlt]; rfl
   rw [hg, List.drop_eq_getElem_cons hlt]
   by_cases he : x = l[i]
   ·rw [if_pos (by rw [← he]; simp)]
    exact ⟨_, rfl, iff_of_true (by omega) (List.mem_cons.2 (.inl he))⟩
   ·rw [if_neg (by
     intro hc
     simp only [Bool.and_eq_true, beq_iff_eq] at hc
     obtain ⟨h0, h1, h2, h3⟩ := hc
     apply he
     cases x
     generalize hL : l[i] = y at h0 h1 h2 h3 ⊢
     cases y
     simp only at h0 h1 h2 h3
     subst h0 h1 h2 h3
     rfl)]
    rw [show wrap64 ((i : Int) + 1) = ((i + 1 : Nat) : Int) by unfold wrap64; omega]
    obtain ⟨r, hr, hm⟩ := contains_l0 l x hl k (i + 1) (by omega) (by omega)
    exact ⟨r, hr, hm.trans ⟨fun h => List.mem_cons.2 (.inr h), fun h => (List.mem_cons.1 h).resolve_left he⟩⟩
  ·rw [if_neg (by omega)]
   refine ⟨_, rfl, ?_⟩
   rw [List.drop_eq_nil_of_le (by omega)]
   simp
theorem contains_calls (l : List S_R) (x : S_R) (A : Option Addr) (c : Nat) (hl : l.length < 4611686018427387904) (w : World) (hr : Kd.C k58 w A l.length l) (hc : l.length ≤ c) :
  Calls Tryz.prog 41 #[.slice A l.length c, .agg #[.int .i64 x.f0, .int .i64 x.f1, .int .i64 x.f2, .int .i64 x.f3]] w fun e w' => (∃ b, e = .returned (.bool b) ∧ (b = true ↔ x ∈ l)) ∧ Below w.heap.size w w' := by
 obtain ⟨r, h1, h2⟩ := contains_l0 l x hl (l.length + 1) 0 (Nat.zero_le _) (by omega)
 refine (api_Rect_41.calls (l.length + 1) A c l x.f0 x.f1 x.f2 x.f3 (decide (r ≥ 0)) w hr hc ?_).mono ?_
 ·unfold api_Rect_41.f api_Rect_60.f
  rw [show (0 : Int) = ((0 : Nat) : Int) from rfl, h1]; rfl
 ·rintro e w' ⟨rfl, hb⟩
  exact ⟨⟨_, rfl, by rw [decide_eq_true_iff]; simpa using h2⟩, hb⟩
section
variable {F : Fence} {nF : Nat} {P : Program} {ops : Array Oper} {rest : List Oper} {o : Oper} {a : Act} {Q : Exit → Act → World → Prop} {α : Type}
theorem append_cellsIn {W : World} (base : Nat) (hgd : o.guard = none) (s x : Operand) (t e : TypeId) (z : Value) (size bytes : Nat)
  (ho : o.op = .call { callee := .builtin .append, args := #[s, x], argTypes := #[t, t] })
  (ht : P.underlying t = some (.slice e)) (hinfo : (P.info? e).map (fun i => (i.zero, i.size, i.bytes)) = some (some z, size, bytes)) (hz : z.cells.size = size) (hs0 : 0 < size) (hb0 : 0 < bytes)
  (v : Value) (n : Nat) (xs ys : List Value) (hs : a.eval s = v) (hx : a.eval x = .slice (some ⟨W.heap.size, 0, none⟩) 1 1) (hys : ys.length = size) (h1 : ∀ u ∈ ys, u.oneCell' = true)
  (HO : W.ownsRow base e size v n xs) (hbase : base ≤ W.heap.size) (hl : (n + 1) * bytes ≤ 140737488355328)
  (h : ∀ v1 w1, w1.ownsRow base e size v1 (n + 1) (xs ++ ys) → W.grownBy w1 v.ownBlock → (v1.ownBlock = v.ownBlock ∨ ∃ b, v1.ownBlock = some b ∧ W.heap.size ≤ b) → wpListIn F nF P ops Q rest (a.put o.dst v1) w1) :
  wpListIn F nF P ops Q (o :: rest) a (W.alloc (.cells ys.toArray e)) := by
 obtain ⟨i0, hi, hzz⟩ := Option.map_eq_some_iff.1 hinfo
 simp only [Prod.mk.injEq] at hzz
 obtain ⟨hz0, hz1, hz2⟩ := hzz
 have hlen : n + 1 ≤ 140737488355328 := Nat.le_trans (Nat.le_mul_of_pos_right _ hb0) hl
 refine wpListIn_append_own_at (W.alloc (.cells ys.toArray e)) hgd s x t ho base e i0 z size bytes ht hi hz0 hz1 hz2 hz hs0 v n xs hs (HO.alloc _) ⟨W.heap.size, 0, none⟩ 1 1 ys hx (by rw [hys]; simp)
  (by simpa using World.news_of_block (cs := ys.toArray) (t := e) (fr := (0, 0)) (heap_alloc_new W (.cells ys.toArray e))) h1 (by simp only [maxLen]; omega) hl (by simp; omega) ?_
 intro v1 w1 hown hg _ hat
 refine h v1 w1 hown (World.grownBy.trans (World.grownBy_alloc W _ _) hg) ?_
 rcases hat with hat | hat
 ·exact .inl hat
 ·exact .inr ⟨_, hat, by simp⟩
theorem R_appendIn (d : Kd α) {W : World} (base : Nat) (hgd : o.guard = none) (s x : Operand) (t e : TypeId) (z : Value) (bytes : Nat)
  (ho : o.op = .call { callee := .builtin .append, args := #[s, x], argTypes := #[t, t] })
  (ht : P.underlying t = some (.slice e)) (hinfo : (P.info? e).map (fun i => (i.zero, i.size, i.bytes)) = some (some z, d.sz, bytes)) (hz : z.cells.size = d.sz) (hs0 : 0 < d.sz) (hb0 : 0 < bytes)
  (v : Value) (xs : List α) (p : α) (cs : List Value) (ok okp : Nat → Prop) (hs : a.eval s = v) (hx : a.eval x = .slice (some ⟨W.heap.size, 0, none⟩) 1 1) (hp : d.M W base okp p cs) (hokp : ∀ k, okp k → ok k ∧ some k ≠ v.ownBlock) (hfresh : ∀ k, W.heap.size ≤ k → ok k)
  (HO : d.R e W base ok v xs) (hbase : base ≤ W.heap.size) (hl : (xs.length + 1) * bytes ≤ 140737488355328)
  (h : ∀ v1 w1, d.R e w1 base ok v1 (xs ++ [p]) → W.grownBy w1 v.ownBlock → (v1.ownBlock = v.ownBlock ∨ ∃ b, v1.ownBlock = some b ∧ W.heap.size ≤ b) → wpListIn F nF P ops Q rest (a.put o.dst v1) w1) :
  wpListIn F nF P ops Q (o :: rest) a (W.alloc (.cells cs.toArray e)) := by
 obtain ⟨h0, inner, hown, hr⟩ := HO
 refine append_cellsIn base hgd s x t e z d.sz bytes ho ht hinfo hz hs0 hb0 v xs.length inner cs hs hx (d.K_len (d.K_of_M hp)) (d.K_one (d.K_of_M hp)) hown hbase hl ?_
 intro v1 w1 hown1 hg1 hat1
 exact h v1 w1 (Kd.R_appended h0 hr hp hokp hfresh hown1 hg1 hat1) hg1 hat1
end
def HoldR (B : Nat) (xs : List S_R) (W : World) : Prop := ∃ v, Boxed W B 48 v ∧ Kd.R k58 58 W B (fun k => k ≠ B) v xs
theorem HoldR.below {B : Nat} {xs : List S_R} {W W1 : World} (h : HoldR B xs W) (hb : Below W.heap.size W W1) : HoldR B xs W1 := by
 obtain ⟨v, hB, hR⟩ := h
 exact ⟨v, blk_below hB hb, Kd.R_below hR hb⟩
theorem HoldR.own {β : Type} (b B : Nat) (f : β → List S_R) : OwnFrom b (fun pre W => HoldR B (f pre) W) := by
 rintro s W W' row ⟨v, hB, hR⟩ hg hr
 refine ⟨v, (boxed_own B 48 (fun (_ : Unit) => v)) () W W' row hB hg (fun r e => (hr r e).2), ?_⟩
 refine Kd.R_mono (Kd.R_grown (Kd.R_bound hR) hg (fun k hk e => ?_)) (fun k hk => hk.1)
 obtain ⟨_, _, _, q, _, cells, hc⟩ := hk
 obtain ⟨_, o, ho, hn⟩ := hr k e.symm
 rw [hc] at ho
 cases ho
 cases hn
theorem KpB.call {n0 B : Nat} {W W1 : World} (hn : n0 ≤ W.heap.size) (hB : B < W.heap.size) (hb : Below W.heap.size W W1) : KpB n0 B W W1 := by
 have e : ownB B W1 = ownB B W := ownB_other (hb.block B hB)
 refine ⟨hb.mono hn, hb.size, fun g b h => ?_, fun k cs t hk _ _ => (hb.block k (blk_lt hk)).trans hk, .inl e⟩
 rw [e] at h
 exact Nat.lt_of_lt_of_le (g b h) hb.size
theorem ownB_boxed {B : Nat} {t : TypeId} {v : Value} {W : World} (h : Boxed W B t v) : ownB B W = v.ownBlock := by
 unfold ownB
 rw [h.cell]
theorem KpB.app {n0 B : Nat} {t : TypeId} {v v1 : Value} {W w1 : World} (hn : n0 ≤ B) (hb : Boxed W B t v) (hg : W.grownBy w1 v.ownBlock) (hv : ∀ k, v.ownBlock = some k → B ≤ k ∧ k ≠ B)
  (hlt : ∀ k, v1.ownBlock = some k → k < w1.heap.size) (hat : v1.ownBlock = v.ownBlock ∨ ∃ b, v1.ownBlock = some b ∧ W.heap.size ≤ b) : KpB n0 B W (w1.setCell ⟨B, 0, none⟩ v1) := by
 have hB1 : Boxed w1 B t v := blk_grown hb hg (fun e => (hv B e.symm).2 rfl)
 have e1 : ownB B (w1.setCell ⟨B, 0, none⟩ v1) = v1.ownBlock := ownB_boxed (hB1.set v1)
 have hlB := hb.lt
 refine ⟨((Below.refl n0 W).grown hg (by omega) (fun k e => Nat.le_trans hn (hv k e).1)).setCell (p := ⟨B, 0, none⟩) hn _, by simpa using hg.size, fun _ b h => ?_, fun k cs t hk hkB ho => ?_, ?_⟩
 ·rw [e1] at h
  simpa using hlt b h
 ·rw [ownB_boxed hb] at ho
  exact (Below.heap_setCell w1 ⟨B, 0, none⟩ v1 k hkB).trans ((hg.block k (blk_lt hk) ho).trans hk)
 ·rw [e1, ownB_boxed hb]
  exact hat
theorem KeepsOthers.call {W W1 : World} (hb : Below W.heap.size W W1) : KeepsOthers W W1 := ⟨hb.size, fun k o hk _ => (hb.block k (Array.getElem?_eq_some_iff.1 hk).1).trans hk⟩
def rcS (n : Nd) : S_R := ⟨(fR n).t, (fR n).l, (fR n).o, (fR n).r⟩
instance : DecidableEq S_R := fun a b => decidable_of_iff (a.f0 = b.f0 ∧ a.f1 = b.f1 ∧ a.f2 = b.f2 ∧ a.f3 = b.f3) ⟨fun h => by cases a; cases b; simp only at h; obtain ⟨rfl, rfl, rfl, rfl⟩ := h; rfl, fun h => by subst h; exact ⟨rfl, rfl, rfl, rfl⟩⟩
def addS (out : List S_R) (n : Nd) : List S_R := if rgB n = true then (if rcS n ∈ out then out else out ++ [rcS n]) else out
def outS (l : List Nd) : List S_R := l.foldl addS []
theorem outS_snoc (l : List Nd) (n : Nd) : outS (l ++ [n]) = addS (outS l) n := by simp [outS]
theorem addS_length (out : List S_R) (n : Nd) : (addS out n).length ≤ out.length + 1 := by
 unfold addS
 repeat' split
 all_goals simp
theorem outS_length (l : List Nd) : (outS l).length ≤ l.length := by
 have : ∀ (l : List Nd) (o : List S_R), (l.foldl addS o).length ≤ o.length + l.length := by
  intro l
  induction l with
  | nil => intro o; simp
  | cons x r ih =>
   intro o
   have h1 := ih (addS o x)
   have h2 := addS_length o x
   simp only [List.foldl_cons, List.length_cons]
   omega
 simpa [outS] using this l []
end Go.Proofs.YtopdjokncbpghaaGreatDoor.Pr
end
section
namespace Go.Proofs.YtopdjokncbpghaaGreatDoor.Pr
open Go.RowKit Go.Proofs.YtopdjokncbpghaaGreatDoorW.PrintWords Go.Proofs.YtopdjokncbpghaaGreatDoorW.PrintLast Go.Proofs.YtopdjokncbpghaaGreatDoorW.PrintMore
structure FRow where
 lo : Int
 hi : Int
 wants : List Int
 deriving DecidableEq
def wantI (b : UInt8) : Int := if b = 86 then 1 else if b = 82 then 2 else 3
def argsL (LB : Nd → Bool) (W : List Int) : List Nd → Nat → Bool
 | [], _ => false
 | x :: r, i => (W.getD (min i (W.length - 1)) 0 == 2 && (!(rgB x) && !(LB x))) || argsL LB W r (i + 1)
def calledR (LB : Nd → Bool) (f : Option FRow) (l : List Nd) : Int :=
 match f with
 | none => 8
 | some f => if (l.length : Int) < f.lo ∨ (l.length : Int) > f.hi then 10 else if argsL LB f.wants l 0 = true then 2 else 0
def firstE (F : Nd → Int) : List Nd → Int
 | [] => 0
 | x :: r => if F x = 0 then firstE F r else F x
theorem firstE_append (F : Nd → Int) : ∀ l m : List Nd, firstE F (l ++ m) = if firstE F l = 0 then firstE F m else firstE F l
 | [], m => by simp [firstE]
 | x :: r, m => by
  rw [List.cons_append, firstE, firstE, firstE_append F r m]
  by_cases h : F x = 0
  ·rw [if_pos h, if_pos h]
  ·rw [if_neg h, if_neg h, if_neg h]
def callB (name : ByteArray) (n : Nd) : Bool := n.f0 == 6 && n.f4.data.toList == name.data.toList
theorem callB_ne {name : ByteArray} {n : Nd} (h : ¬n.f4 = name) : callB name n = false := by
 unfold callB
 rw [beq_eq_false_iff_ne.2 (fun e => h (ByteArray.ext (Array.toList_inj.1 e)) : n.f4.data.toList ≠ name.data.toList), Bool.and_false]
abbrev S_G := S68
theorem bt_n9 (s : ByteArray) (i : Nat) (h : i < s.data.toList.length) : bt s (i : Int) = ((s.data.toList[i]).toNat : Int) := by
 have h2 : i < s.size := by rw [Array.length_toList] at h; exact h
 unfold bt
 rw [Int.toNat_natCast, dif_pos h2]
 rfl
def wantsB (s : ByteArray) : List Int := s.data.toList.map wantI
def fieldsB (s : ByteArray) : List ByteArray := (Lib.fields s.data.toList).map fun l => ⟨l.toArray⟩
def inB9 (l : List ByteArray) (x : ByteArray) : Bool := l.any fun y => x.data.toList == y.data.toList
theorem toL_eq (x y : ByteArray) : (x.toList = y.toList) ↔ (x.data.toList == y.data.toList) = true := by
 rw [ByteArray.toList_eq, ByteArray.toList_eq, beq_iff_eq]
theorem rd9 (l : List ByteArray) (i : Nat) (h : i < l.length) : rdOf ByteArray.empty l (i : Int) = l[i] := by
 unfold rdOf
 rw [Int.toNat_natCast, List.getD_eq_getElem?_getD, List.getElem?_eq_getElem h]; rfl
theorem rdG (l : List S_G) (i : Nat) (h : i < l.length) : rd_T68 l (i : Int) = l[i] := by
 unfold rd_T68
 rw [Int.toNat_natCast, List.getD_eq_getElem?_getD, List.getElem?_eq_getElem h]; rfl
theorem wr1 (i : Nat) (h : i < 1000000) : wrap64 ((i : Int) + 1) = ((i + 1 : Nat) : Int) := by unfold wrap64; omega
theorem index9 (l : List ByteArray) (x : ByteArray) (hl : l.length < 1000000) : ∀ (k i : Nat), i ≤ l.length → l.length < i + k →
  ∃ r, slices_Index_string_string.l0 k l x (l.length : Int) (i : Int) = some r ∧ decide (r ≥ 0) = inB9 (l.drop i) x
 | 0, i, hi, h => by exfalso; omega
 | k + 1, i, hi, h => by
  rw [slices_Index_string_string.l0]
  by_cases h1 : i < l.length
  ·rw [if_pos (by omega), if_pos (by omega), if_pos (by omega), rd9 l i h1, wr1 i (by omega), List.drop_eq_getElem_cons h1]
   by_cases hq : x.toList = l[i].toList
   ·rw [if_pos hq]
    refine ⟨_, rfl, ?_⟩
    rw [decide_eq_true (by omega)]
    unfold inB9
    rw [List.any_cons, (toL_eq _ _).1 hq]; rfl
   ·rw [if_neg hq]
    obtain ⟨r, e1, e2⟩ := index9 l x hl k (i + 1) (by omega) (by omega)
    refine ⟨r, e1, e2.trans ?_⟩
    unfold inB9
    rw [List.any_cons, Bool.eq_false_iff.2 (fun e => hq ((toL_eq _ _).2 e)), Bool.false_or]
  ·rw [if_neg (by omega), List.drop_of_length_le (by omega)]
   exact ⟨_, rfl, rfl⟩
theorem contains9 (l : List ByteArray) (x : ByteArray) (k : Nat) (hl : l.length < 1000000) (hk : l.length < k) : slices_Contains_string_string.f k l x = some (inB9 l x) := by
 obtain ⟨r, e1, e2⟩ := index9 l x hl k 0 (Nat.zero_le _) (by omega)
 unfold slices_Contains_string_string.f slices_Index_string_string.f
 have e0 : slices_Index_string_string.l0 k l x (l.length : Int) 0 = some r := e1
 rw [e0, Option.bind_some, e2, List.drop_zero]
theorem wantI_cases (b : UInt8) : (b.toNat : Int) = 86 ↔ b = 86 := by
 constructor
 ·intro h
  have : b.toNat = 86 := by omega
  exact UInt8.toNat_inj.1 this
 ·rintro rfl; rfl
theorem wantI_cases2 (b : UInt8) : (b.toNat : Int) = 82 ↔ b = 82 := by
 constructor
 ·intro h
  have : b.toNat = 82 := by omega
  exact UInt8.toNat_inj.1 this
 ·rintro rfl; rfl
theorem form9 (a0 : ByteArray) (a1 a2 : Int) (s name : ByteArray) (hs : s.size ≤ 100) : ∀ (k i : Nat) (acc : List Int), i ≤ s.size → acc.length ≤ i → s.size < i + k →
  forms_group_form.l0 k (s.size : Int) (i : Int) a0 a1 a2 s name a1 a2 acc = some (name, a1, a2, acc ++ ((s.data.toList.drop i).map wantI))
 | 0, i, acc, hi, ha, h => by exfalso; omega
 | k + 1, i, acc, hi, ha, h => by
  have hsz : s.data.toList.length = s.size := Array.length_toList
  rw [forms_group_form.l0]
  by_cases h1 : i < s.size
  ·have hd : s.data.toList.drop i = s.data.toList[i]'(by omega) :: s.data.toList.drop (i + 1) := List.drop_eq_getElem_cons (by omega)
   rw [if_pos (by omega), if_pos (by omega), if_pos (by omega), bt_n9 s i (by omega), wr1 i (by omega), hd, List.map_cons]
   generalize s.data.toList[i]'(by omega) = b
   have hlen : acc.length < 17592186044416 := by omega
   by_cases q : b = 86
   ·rw [if_pos ((wantI_cases b).2 q), if_pos hlen, form9 a0 a1 a2 s name hs k (i + 1) _ (by omega) (by simp; omega) (by omega), show wantI b = 1 by unfold wantI; rw [if_pos q]]; simp
   ·rw [if_neg (fun e => q ((wantI_cases b).1 e))]
    by_cases q2 : b = 82
    ·rw [if_pos ((wantI_cases2 b).2 q2), if_pos hlen, form9 a0 a1 a2 s name hs k (i + 1) _ (by omega) (by simp; omega) (by omega), show wantI b = 2 by unfold wantI; rw [if_neg q, if_pos q2]]; simp
    ·rw [if_neg (fun e => q2 ((wantI_cases2 b).1 e)), if_pos hlen, form9 a0 a1 a2 s name hs k (i + 1) _ (by omega) (by simp; omega) (by omega), show wantI b = 3 by unfold wantI; rw [if_neg q, if_neg q2]]; simp
  ·rw [if_neg (by omega), List.drop_of_length_le (by omega)]
   simp
def foundR (name : ByteArray) (f : Option FRow) : ByteArray × Int × Int × List Int × Int := match f with
 | some f => (name, f.lo, f.hi, f.wants, 0)
 | none => ((⟨#[]⟩ : ByteArray), 0, 0, [], 8)
def rowG (g : S_G) : FRow := ⟨g.f1, g.f2, wantsB g.f3⟩
def okG (g : S_G) : Bool := decide (g.f0.size < 1000) && (g.f0.data.toList.all (fun b => decide (b.toNat < 128)) && (decide ((Lib.fields g.f0.data.toList).length ≤ 30) && decide (g.f3.size ≤ 10)))
def groupsC : List S_G := forms_groups.f.getD []
theorem groupsC_eq : forms_groups.f = some groupsC := rfl
theorem groupsC_ok : (groupsC.all okG && decide (groupsC.length = 25)) = true := by decide +kernel
def findG (G : List S_G) (name : ByteArray) : Option FRow := (G.find? fun g => inB9 (fieldsB g.f0) name).map rowG
theorem find9 (G : List S_G) (name : ByteArray) (hG : G.all okG = true) (hl : G.length ≤ 1000) : ∀ (k i : Nat), i ≤ G.length → G.length + 50 < i + k →
  forms_Find.l0 k name G (G.length : Int) (i : Int) = some (foundR name (findG (G.drop i) name))
 | 0, i, hi, h => by exfalso; omega
 | k + 1, i, hi, h => by
  rw [forms_Find.l0]
  by_cases h1 : i < G.length
  ·have hg := List.all_eq_true.1 hG _ (List.getElem_mem h1)
   unfold okG at hg
   simp only [Bool.and_eq_true, decide_eq_true_eq] at hg
   obtain ⟨g0, g1, g2, g3⟩ := hg
   rw [if_pos (by omega), if_pos (by omega), if_pos (by omega), rdG G i h1, List.drop_eq_getElem_cons h1]
   generalize G[i] = g at g0 g1 g2 g3
   have hf : strings_Fields.f g.f0 = some (fieldsB g.f0) := by unfold strings_Fields.f; rw [if_pos ⟨by omega, g1, by omega⟩]; rfl
   have hfl : (fieldsB g.f0).length ≤ 30 := by unfold fieldsB; rw [List.length_map]; exact g2
   rw [hf, Option.bind_some, contains9 _ name k (by omega) (by omega), Option.bind_some]
   unfold findG
   rw [List.find?_cons]
   by_cases hc : inB9 (fieldsB g.f0) name = true
   ·rw [if_pos hc, hc]
    unfold forms_group_form.f
    rw [show (0 : Int) = ((0 : Nat) : Int) from rfl, form9 g.f0 g.f1 g.f2 g.f3 name (by omega) k 0 [] (Nat.zero_le _) (Nat.zero_le _) (by omega), Option.bind_some]
    rfl
   ·rw [if_neg hc, Bool.eq_false_iff.2 hc, wr1 i (by omega)]
    exact find9 G name hG hl k (i + 1) (by omega) (by omega)
  ·rw [if_neg (by omega), List.drop_of_length_le (by omega)]
   rfl
def findT (name : ByteArray) : Option FRow := findG groupsC name
theorem find_is (name : ByteArray) : forms_Find.f 100 name = some (foundR name (findT name)) := by
 have h := groupsC_ok
 rw [Bool.and_eq_true, decide_eq_true_eq] at h
 unfold forms_Find.f
 rw [groupsC_eq, Option.bind_some, show (0 : Int) = ((0 : Nat) : Int) from rfl, find9 groupsC name h.1 (by omega) 100 0 (Nat.zero_le _) (by omega)]
 rfl
theorem rows_ok : (groupsC.all fun g => decide (0 ≤ g.f1) && (decide (g.f2 ≤ 0) || decide (1 ≤ g.f3.size))) = true := by decide +kernel
theorem findT_wants {name : ByteArray} {f : FRow} (h : findT name = some f) : 0 ≤ f.lo ∧ (f.hi ≤ 0 ∨ 1 ≤ f.wants.length) ∧ f.wants.length ≤ 10 := by
 unfold findT findG at h
 obtain ⟨g, hg, rfl⟩ := Option.map_eq_some_iff.1 h
 have hm := List.mem_of_find?_eq_some hg
 have h1 := List.all_eq_true.1 rows_ok g hm
 have h2 := groupsC_ok
 rw [Bool.and_eq_true] at h2
 have h3 := List.all_eq_true.1 h2.1 g hm
 unfold okG at h3
 simp only [Bool.and_eq_true, Bool.or_eq_true, decide_eq_true_eq] at h1 h3
 have hz : (wantsB g.f3).length = g.f3.size := by unfold wantsB; rw [List.length_map]; exact Array.length_toList
 refine ⟨h1.1, ?_, ?_⟩
 ·show g.f2 ≤ 0 ∨ 1 ≤ (wantsB g.f3).length
  rw [hz]; exact h1.2
 ·show (wantsB g.f3).length ≤ 10
  rw [hz]; exact h3.2.2.2
def lostB (n : Nd) : Bool := n.f0 == 1 && n.f1.f4 == 3
theorem rd_wants (l : List Int) (i : Nat) : rd l (i : Int) = l.getD i 0 := by
 unfold rd
 rw [Int.toNat_natCast]
def FormOut (nm : ByteArray) (lo hi : Int) (W : List Int) (z : Int) (w : World) (e : Ending) (w' : World) : Prop :=
 ∃ A c, e = .returned (.tuple #[.agg #[.string nm, .int .i64 lo, .int .i64 hi, .slice A W.length c], .int .i64 z]) ∧ W.length ≤ c ∧ Kd.C (Kd.int .i64) w' A W.length W ∧ Below w.heap.size w w'
def FindOut (name : ByteArray) (f : Option FRow) (w : World) (e : Ending) (w' : World) : Prop :=
 match f with
 | some f => FormOut name f.lo f.hi f.wants 0 w e w'
 | none => FormOut (⟨#[]⟩ : ByteArray) 0 0 [] 8 w e w'
theorem findOut_of {go : Nat} {name : ByteArray} {f : Option FRow} {w : World} (h : Calls Tryz.prog go #[.string name] w fun e w' => ∃ v3_ : Value, e = .returned (.tuple #[.agg #[.string (foundR name f).1, .int .i64 (foundR name f).2.1, .int .i64 (foundR name f).2.2.1, v3_], .int .i64 (foundR name f).2.2.2.2]) ∧ Kd.R (Kd.int .i64) 62 w' w.heap.size (fun _ => True) v3_ (foundR name f).2.2.2.1 ∧ Below w.heap.size w w') :
  Calls Tryz.prog go #[.string name] w (FindOut name f w) := by
 refine h.mono ?_
 rintro e w' ⟨v, rfl, hR, hb⟩
 obtain ⟨A, c, rfl, hle, hC⟩ := Kd.R_reads hR
 cases f with
 | some f => exact ⟨A, c, rfl, hle, hC, hb⟩
 | none => exact ⟨A, c, rfl, hle, hC, hb⟩
theorem find_calls (name : ByteArray) (w : World) (hL0 : Aside0 (LaidW w)) : Calls Tryz.prog 10 #[.string name] w (FindOut name (findT name) w) :=
 findOut_of (forms_Find.calls 100 name _ _ _ _ _ w (find_is name) hL0)
theorem lostB_calls (n : Nd) (A : Option Addr) (c : Nat) (w : World) (hK : KidsC w A c n.f5) :
  Calls Tryz.prog 57 #[nodeV n A c] w fun e w' => e = .returned (.bool (lostB n)) ∧ Below w.heap.size w w' := by
 refine forms_lost.calls n.f0 n.f1.f0 n.f1.f1 n.f1.f2 n.f1.f3 n.f1.f4 n.f2.f0.f0 n.f2.f0.f1 n.f2.f1 n.f2.f2 n.f3.f0.f0 n.f3.f0.f1 n.f3.f1 n.f3.f2 n.f4 A c n.f5 (lostB n) w hK.2 hK.1 ?_
 unfold forms_lost.f lostB
 by_cases h1 : n.f0 = 1
 ·rw [if_pos h1]; simp [h1]
 ·rw [if_neg h1]; simp [h1]
theorem called_go (T : ByteArray → Option FRow) (n : Nd) (A : Option Addr) (c : Nat) (w : World) (hK : KidsC w A c n.f5) (HT : Aside0 (∀ s f, T s = some f → 0 ≤ f.lo ∧ (f.hi ≤ 0 ∨ 1 ≤ f.wants.length) ∧ f.wants.length ≤ 10)) (HFi : Aside0 (∀ (s : ByteArray) W, Below w.heap.size w W → Calls Tryz.prog 10 #[.string s] W (FindOut s (T s) W))) :
  Calls Tryz.prog 36 #[nodeV n A c] w fun e w' => e = .returned (.int .i64 (calledR lostB (T n.f4) n.f5)) ∧ Below w.heap.size w w' := by
 obtain ⟨hlc, hC⟩ := hK
 have hmax := hC.2.1
 have HC := Aside0.mk hC
 clear hC
 have HR : Aside0 (calledR lostB (T n.f4) n.f5 = calledR lostB (T n.f4) n.f5) := ⟨rfl⟩
 have B1 := Aside0.mk (newBlk w (.cells (nodeA n A c) 44))
 have hb1 := fun (i : Nat) => blk_cell (newBlk w (.cells (nodeA n A c) 44)) i
 have hT := HT.out n.f4
 generalize hr : calledR lostB (T n.f4) n.f5 = r at HR ⊢
 have HR1 := Aside0.mk hr.symm
 clear HR hr
 cases hq : T n.f4 with
 | none =>
  rw [hq] at HR1
  have HFn : Aside0 (∀ W, Below w.heap.size w W → Calls Tryz.prog 10 #[.string n.f4] W (FormOut (⟨#[]⟩ : ByteArray) 0 0 [] 8 W)) := ⟨fun W hW => by have := HFi.out n.f4 W hW; rw [hq] at this; exact this⟩
  have HR8 : Aside0 (r = 8) := ⟨HR1.out.trans (by simp [calledR])⟩
  clear HR1 hT hq
  go_enter Tryz.func36, Tryz.ntmps36
  go_wp2_with (first
   | (go_at_call 10; (with_reducible refine (HFn.out _ (bel1 w _)).mono ?_); rintro e w1 ⟨A2, c2, rfl, hle2, hC2, hb⟩; have HB1 := Aside0.mk (below_step (bel1 w _) hb); have B2 := Aside0.mk (blk_below B1.out hb); have C2 := Aside0.mk hC2; clear hb hb1 hC2 B1)
   | ((with_reducible refine gate_store (t := 24) (p := 3) (v := .tmp 11) rfl ?_); refine wpRowSt rfl 24 (.tmp 3) (.tmp 11) rfl (w1.heap.size) (#[.string (⟨#[]⟩ : ByteArray), .int .i64 0, .int .i64 0, .slice A2 0 c2]) rfl rfl 24 _ (newBlk w1 _) (by kernel_rfl) rfl rfl ?_; have F3 := Aside0.mk (setRow_heap _ _ _ (#[.string (⟨#[]⟩ : ByteArray), .int .i64 0, .int .i64 0, .slice A2 0 c2]) _ _ (newBlk w1 (.cells #[.string ⟨#[]⟩, .int .i64 0, .int .i64 0, .slice none 0 0] 24))); have N3 := Aside0.mk (rowNew B2.out (.cells #[.string ⟨#[]⟩, .int .i64 0, .int .i64 0, .slice none 0 0] 24) (#[.string (⟨#[]⟩ : ByteArray), .int .i64 0, .int .i64 0, .slice A2 0 c2])); have HB3 := Aside0.mk (rowBelow (below_alloc HB1.out (.cells #[.string ⟨#[]⟩, .int .i64 0, .int .i64 0, .slice none 0 0] 24)) HB1.out.size (#[.string (⟨#[]⟩ : ByteArray), .int .i64 0, .int .i64 0, .slice A2 0 c2])); have C3 := Aside0.mk (Kd.C_below C2.out (rowBelow (bel1 w1 (.cells #[.string ⟨#[]⟩, .int .i64 0, .int .i64 0, .slice none 0 0] 24)) (Nat.le_refl _) (#[.string (⟨#[]⟩ : ByteArray), .int .i64 0, .int .i64 0, .slice A2 0 c2]))); generalize ((w1.alloc (.cells #[.string ⟨#[]⟩, .int .i64 0, .int .i64 0, .slice none 0 0] 24)).setRow w1.heap.size (#[.string (⟨#[]⟩ : ByteArray), .int .i64 0, .int .i64 0, .slice A2 0 c2])) = w3 at F3 N3 HB3 C3 ⊢; have hf3 := fun i => blk_cell F3.out i; have hn3 := fun i => blk_cell N3.out i; clear B2 HB1 C2))
  go_ret
  exact ⟨ret_i HR8.out.symm, HB3.out⟩
 | some f =>
  rw [hq] at HR1
  obtain ⟨h0, h1, h2⟩ := hT f hq
  have HFn : Aside0 (∀ W, Below w.heap.size w W → Calls Tryz.prog 10 #[.string n.f4] W (FormOut n.f4 f.lo f.hi f.wants 0 W)) := ⟨fun W hW => by have := HFi.out n.f4 W hW; rw [hq] at this; exact this⟩
  obtain ⟨lo, hi, W⟩ := f
  simp only at h0 h1 h2 HFn
  clear hT hq
  by_cases c1 : (n.f5.length : Int) < lo
  ·have HR8 : Aside0 (r = 10) := ⟨HR1.out.trans (by unfold calledR; simp [c1])⟩
   have c1b : decide ((n.f5.length : Int) < lo) = true := decide_eq_true c1
   clear HR1
   go_enter Tryz.func36, Tryz.ntmps36
   go_wp2_with (first
    | (go_at_call 10; (with_reducible refine (HFn.out _ (bel1 w _)).mono ?_); rintro e w1 ⟨A2, c2, rfl, hle2, hC2, hb⟩; have HB1 := Aside0.mk (below_step (bel1 w _) hb); have B2 := Aside0.mk (blk_below B1.out hb); have C2 := Aside0.mk hC2; clear hb hb1 hC2 B1)
    | ((with_reducible refine gate_store (t := 24) (p := 3) (v := .tmp 11) rfl ?_); refine wpRowSt rfl 24 (.tmp 3) (.tmp 11) rfl (w1.heap.size) (#[.string (n.f4), .int .i64 lo, .int .i64 hi, .slice A2 W.length c2]) rfl rfl 24 _ (newBlk w1 _) (by kernel_rfl) rfl rfl ?_; have F3 := Aside0.mk (setRow_heap _ _ _ (#[.string (n.f4), .int .i64 lo, .int .i64 hi, .slice A2 W.length c2]) _ _ (newBlk w1 (.cells #[.string ⟨#[]⟩, .int .i64 0, .int .i64 0, .slice none 0 0] 24))); have N3 := Aside0.mk (rowNew B2.out (.cells #[.string ⟨#[]⟩, .int .i64 0, .int .i64 0, .slice none 0 0] 24) (#[.string (n.f4), .int .i64 lo, .int .i64 hi, .slice A2 W.length c2])); have HB3 := Aside0.mk (rowBelow (below_alloc HB1.out (.cells #[.string ⟨#[]⟩, .int .i64 0, .int .i64 0, .slice none 0 0] 24)) HB1.out.size (#[.string (n.f4), .int .i64 lo, .int .i64 hi, .slice A2 W.length c2])); have C3 := Aside0.mk (Kd.C_below C2.out (rowBelow (bel1 w1 (.cells #[.string ⟨#[]⟩, .int .i64 0, .int .i64 0, .slice none 0 0] 24)) (Nat.le_refl _) (#[.string (n.f4), .int .i64 lo, .int .i64 hi, .slice A2 W.length c2]))); generalize ((w1.alloc (.cells #[.string ⟨#[]⟩, .int .i64 0, .int .i64 0, .slice none 0 0] 24)).setRow w1.heap.size (#[.string (n.f4), .int .i64 lo, .int .i64 hi, .slice A2 W.length c2])) = w3 at F3 N3 HB3 C3 ⊢; have hf3 := fun i => blk_cell F3.out i; have hn3 := fun i => blk_cell N3.out i; clear B2 HB1 C2))
   go_ret
   exact ⟨ret_i HR8.out.symm, HB3.out⟩
  ·have c1b : decide ((n.f5.length : Int) < lo) = false := decide_eq_false c1
   by_cases c2_ : (n.f5.length : Int) > hi
   ·have HR8 : Aside0 (r = 10) := ⟨HR1.out.trans (by unfold calledR; simp [c2_])⟩
    clear HR1
    go_enter Tryz.func36, Tryz.ntmps36
    go_wp2_with (first
     | (go_at_call 10; (with_reducible refine (HFn.out _ (bel1 w _)).mono ?_); rintro e w1 ⟨A2, c2, rfl, hle2, hC2, hb⟩; have HB1 := Aside0.mk (below_step (bel1 w _) hb); have B2 := Aside0.mk (blk_below B1.out hb); have C2 := Aside0.mk hC2; clear hb hb1 hC2 B1)
     | ((with_reducible refine gate_store (t := 24) (p := 3) (v := .tmp 11) rfl ?_); refine wpRowSt rfl 24 (.tmp 3) (.tmp 11) rfl (w1.heap.size) (#[.string (n.f4), .int .i64 lo, .int .i64 hi, .slice A2 W.length c2]) rfl rfl 24 _ (newBlk w1 _) (by kernel_rfl) rfl rfl ?_; have F3 := Aside0.mk (setRow_heap _ _ _ (#[.string (n.f4), .int .i64 lo, .int .i64 hi, .slice A2 W.length c2]) _ _ (newBlk w1 (.cells #[.string ⟨#[]⟩, .int .i64 0, .int .i64 0, .slice none 0 0] 24))); have N3 := Aside0.mk (rowNew B2.out (.cells #[.string ⟨#[]⟩, .int .i64 0, .int .i64 0, .slice none 0 0] 24) (#[.string (n.f4), .int .i64 lo, .int .i64 hi, .slice A2 W.length c2])); have HB3 := Aside0.mk (rowBelow (below_alloc HB1.out (.cells #[.string ⟨#[]⟩, .int .i64 0, .int .i64 0, .slice none 0 0] 24)) HB1.out.size (#[.string (n.f4), .int .i64 lo, .int .i64 hi, .slice A2 W.length c2])); have C3 := Aside0.mk (Kd.C_below C2.out (rowBelow (bel1 w1 (.cells #[.string ⟨#[]⟩, .int .i64 0, .int .i64 0, .slice none 0 0] 24)) (Nat.le_refl _) (#[.string (n.f4), .int .i64 lo, .int .i64 hi, .slice A2 W.length c2]))); generalize ((w1.alloc (.cells #[.string ⟨#[]⟩, .int .i64 0, .int .i64 0, .slice none 0 0] 24)).setRow w1.heap.size (#[.string (n.f4), .int .i64 lo, .int .i64 hi, .slice A2 W.length c2])) = w3 at F3 N3 HB3 C3 ⊢; have hf3 := fun i => blk_cell F3.out i; have hn3 := fun i => blk_cell N3.out i; clear B2 HB1 C2))
    go_ret
    exact ⟨ret_i HR8.out.symm, HB3.out⟩
   ·have HR2 : Aside0 (r = if argsL lostB W (n.f5.drop 0) 0 = true then 2 else 0) := ⟨HR1.out.trans (by unfold calledR; simp only; rw [if_neg (by omega), List.drop_zero])⟩
    clear HR1
    go_enter Tryz.func36, Tryz.ntmps36
    go_wp2_with (first
     | (go_at_call 10; (with_reducible refine (HFn.out _ (bel1 w _)).mono ?_); rintro e w1 ⟨A2, c2, rfl, hle2, hC2, hb⟩; have HB1 := Aside0.mk (below_step (bel1 w _) hb); have B2 := Aside0.mk (blk_below B1.out hb); have C2 := Aside0.mk hC2; clear hb hb1 hC2 B1)
     | ((with_reducible refine gate_store (t := 24) (p := 3) (v := .tmp 11) rfl ?_); refine wpRowSt rfl 24 (.tmp 3) (.tmp 11) rfl (w1.heap.size) (#[.string (n.f4), .int .i64 lo, .int .i64 hi, .slice A2 W.length c2]) rfl rfl 24 _ (newBlk w1 _) (by kernel_rfl) rfl rfl ?_; have F3 := Aside0.mk (setRow_heap _ _ _ (#[.string (n.f4), .int .i64 lo, .int .i64 hi, .slice A2 W.length c2]) _ _ (newBlk w1 (.cells #[.string ⟨#[]⟩, .int .i64 0, .int .i64 0, .slice none 0 0] 24))); have N3 := Aside0.mk (rowNew B2.out (.cells #[.string ⟨#[]⟩, .int .i64 0, .int .i64 0, .slice none 0 0] 24) (#[.string (n.f4), .int .i64 lo, .int .i64 hi, .slice A2 W.length c2])); have HB3 := Aside0.mk (rowBelow (below_alloc HB1.out (.cells #[.string ⟨#[]⟩, .int .i64 0, .int .i64 0, .slice none 0 0] 24)) HB1.out.size (#[.string (n.f4), .int .i64 lo, .int .i64 hi, .slice A2 W.length c2])); have C3 := Aside0.mk (Kd.C_below C2.out (rowBelow (bel1 w1 (.cells #[.string ⟨#[]⟩, .int .i64 0, .int .i64 0, .slice none 0 0] 24)) (Nat.le_refl _) (#[.string (n.f4), .int .i64 lo, .int .i64 hi, .slice A2 W.length c2]))); generalize ((w1.alloc (.cells #[.string ⟨#[]⟩, .int .i64 0, .int .i64 0, .slice none 0 0] 24)).setRow w1.heap.size (#[.string (n.f4), .int .i64 lo, .int .i64 hi, .slice A2 W.length c2])) = w3 at F3 N3 HB3 C3 ⊢; have hf3 := fun i => blk_cell F3.out i; have hn3 := fun i => blk_cell N3.out i; clear B2 HB1 C2))
    go_loopw [35] (fun i wr => ∃ (q : Nat), q ≤ n.f5.length ∧ i = .int .i64 q ∧ Aside0 (r = (if argsL lostB W (n.f5.drop q) q = true then (2 : Int) else 0)) ∧ Aside0 (Below w.heap.size w wr) ∧ Aside0 (wr.heap[w.heap.size]? = some (.cells (nodeA n A c) 44 (0, 0))) ∧ Aside0 (wr.heap[w1.heap.size]? = some (.cells #[.string n.f4, .int .i64 lo, .int .i64 hi, .slice A2 W.length c2] 24 (0, 0))) ∧ Aside0 (Kd.C (Kd.int .i64) wr A2 W.length W)) (fun i _ => n.f5.length - (intOf i).toNat)
    case atStart => exact ⟨0, by omega, rfl, HR2, HB3, N3, F3, C3⟩
    case round =>
     clear HR2 HB3 N3 F3 C3 hf3 hn3
     obtain ⟨q, hk, rfl, HX, HB, HBk, HFk, HCk⟩ := hrel
     by_cases hkl : q < n.f5.length
     ·have hW1 : 1 ≤ W.length := by omega
      have hw1 : wrap64 ((W.length : Int) - 1) = ((W.length - 1 : Nat) : Int) := by unfold wrap64; omega
      obtain ⟨ix, hix⟩ : ∃ ix : Nat, ix = min q (W.length - 1) := ⟨_, rfl⟩
      have hm1 : min (q : Int) ((W.length - 1 : Nat) : Int) = (ix : Int) := by omega
      have hm2 : (if ((W.length - 1 : Nat) : Int) < (q : Int) then ((W.length - 1 : Nat) : Int) else (q : Int)) = (ix : Int) := by split <;> omega
      have hm3 : (if (q : Int) < ((W.length - 1 : Nat) : Int) then (q : Int) else ((W.length - 1 : Nat) : Int)) = (ix : Int) := by split <;> omega
      have hm4 : min (q : Int) ((W.length : Int) - 1) = (ix : Int) := by omega
      have hmt : (min (q : Int) ((W.length : Int) - 1)).toNat = ix := by omega
      have hil : ix < W.length := by omega
      obtain ⟨ad2, e2, v0⟩ := Kd.at_int HCk.out (ix : Int) (by omega) (by omega)
      subst e2
      rw [rd_wants, Int.toNat_natCast] at v0
      obtain ⟨ad, A', c', e, hK', hCA⟩ := kid_at (Kd.C_below HC.out HB.out) q hkl
      subst e
      have HK' := Aside0.mk hK'
      have HCA := Aside0.mk hCA
      clear hK' hCA
      have HA : Aside0 (argsL lostB W (n.f5.drop q) q = ((W.getD ix 0 == 2 && (!(rgB n.f5[q]) && !(lostB n.f5[q]))) || argsL lostB W (n.f5.drop (q + 1)) (q + 1))) := ⟨by rw [List.drop_eq_getElem_cons hkl, argsL, hix]⟩
      have HRg : Aside0 (∀ V, KidsC V A' c' n.f5[q].f5 → Calls Tryz.prog 39 #[nodeV n.f5[q] A' c'] V fun e w' => e = .returned (.bool (rgB n.f5[q])) ∧ Below V.heap.size V w') := ⟨fun V h => ranged_calls _ _ _ V h⟩
      have HLo : Aside0 (∀ V, KidsC V A' c' n.f5[q].f5 → Calls Tryz.prog 57 #[nodeV n.f5[q] A' c'] V fun e w' => e = .returned (.bool (lostB n.f5[q])) ∧ Below V.heap.size V w') := ⟨fun V h => lostB_calls _ _ _ V h⟩
      generalize W.getD ix 0 = v at v0 HA
      generalize rgB n.f5[q] = zr at HA HRg
      generalize lostB n.f5[q] = zl at HA HLo
      clear hix
      by_cases hv : v = 2
      ·have hvb : (v == 2) = true := by simp [hv]
       cases zr with
       | true =>
        have HN : Aside0 ((if argsL lostB W (n.f5.drop q) q = true then (2 : Int) else 0) = (if argsL lostB W (n.f5.drop (q + 1)) (q + 1) = true then (2 : Int) else 0)) := ⟨by rw [HA.out]; simp⟩
        clear HA hv
        go_wp2_with (first
         | ((with_reducible refine gate_dst (N := 39) rfl ?_); refine wpLdAt 39 rfl rfl 44 (.tmp 38) rfl (ad.add (q * 16)) rfl _ (nodeA n.f5[q] A' c') HCA.out Tryz.underlying44 rfl (by kernel_rfl) ?_)
         | ((with_reducible refine gate_store (t := 44) (p := 6) (v := .tmp 39) rfl ?_); refine wpRowSt rfl 44 (.tmp 6) (.tmp 39) rfl (wr.heap.size) (nodeA n.f5[q] A' c') rfl rfl 44 _ (newBlk wr _) (by kernel_rfl) rfl rfl ?_; have K5 := Aside0.mk (setRow_heap _ _ _ (nodeA n.f5[q] A' c') _ _ (newBlk wr (.cells Z16 44))); have N5 := Aside0.mk (rowNew HBk.out (.cells Z16 44) (nodeA n.f5[q] A' c')); have F5 := Aside0.mk (rowNew HFk.out (.cells Z16 44) (nodeA n.f5[q] A' c')); have HR5 := Aside0.mk (rowBelow (bel1 wr (.cells Z16 44)) (Nat.le_refl _) (nodeA n.f5[q] A' c')); generalize ((wr.alloc (.cells Z16 44)).setRow wr.heap.size (nodeA n.f5[q] A' c')) = w5 at K5 N5 F5 HR5 ⊢; have hf5 := fun i => blk_cell F5.out i; have v5 := (HR5.out.cell (World.block_lt_of_cell? _ _ v0)).trans v0; have HK5 := Aside0.mk (HK'.out.below HR5.out); clear v0 HK' HCA)
         | ((with_reducible refine gate_dst (N := 52) rfl ?_); (refine gate_guard (by rfl) ?_; dsimp only); refine wpPartLd 52 rfl rfl 44 (.tmp 6) rfl _ rfl _ (nodeA n.f5[q] A' c') [] (K5.out) rfl Tryz.underlying44 rfl (by kernel_rfl) ?_)
         | (go_at_call 39; (with_reducible refine ((HRg.out _ HK5.out).mono ?_)); rintro e w6 ⟨rfl, hb⟩; have HR6 := Aside0.mk (HR5.out.trans (hb.mono HR5.out.size)); have K6 := Aside0.mk (blk_below K5.out hb); have N6 := Aside0.mk (blk_below N5.out hb); have F6 := Aside0.mk (blk_below F5.out hb); have HK6 := Aside0.mk (HK5.out.below hb); clear hb hf5))
        go_roundw
        case rel => exact ⟨q + 1, by omega, by go_num, ⟨HX.out.trans HN.out⟩, ⟨below_step HB.out HR6.out⟩, N6, F6, ⟨Kd.C_below HCk.out HR6.out⟩⟩
        case measure => simp [intOf]; omega
       | false =>
        cases zl with
        | true =>
         have HN : Aside0 ((if argsL lostB W (n.f5.drop q) q = true then (2 : Int) else 0) = (if argsL lostB W (n.f5.drop (q + 1)) (q + 1) = true then (2 : Int) else 0)) := ⟨by rw [HA.out]; simp⟩
         clear HA hv
         go_wp2_with (first
          | ((with_reducible refine gate_dst (N := 39) rfl ?_); refine wpLdAt 39 rfl rfl 44 (.tmp 38) rfl (ad.add (q * 16)) rfl _ (nodeA n.f5[q] A' c') HCA.out Tryz.underlying44 rfl (by kernel_rfl) ?_)
          | ((with_reducible refine gate_store (t := 44) (p := 6) (v := .tmp 39) rfl ?_); refine wpRowSt rfl 44 (.tmp 6) (.tmp 39) rfl (wr.heap.size) (nodeA n.f5[q] A' c') rfl rfl 44 _ (newBlk wr _) (by kernel_rfl) rfl rfl ?_; have K5 := Aside0.mk (setRow_heap _ _ _ (nodeA n.f5[q] A' c') _ _ (newBlk wr (.cells Z16 44))); have N5 := Aside0.mk (rowNew HBk.out (.cells Z16 44) (nodeA n.f5[q] A' c')); have F5 := Aside0.mk (rowNew HFk.out (.cells Z16 44) (nodeA n.f5[q] A' c')); have HR5 := Aside0.mk (rowBelow (bel1 wr (.cells Z16 44)) (Nat.le_refl _) (nodeA n.f5[q] A' c')); generalize ((wr.alloc (.cells Z16 44)).setRow wr.heap.size (nodeA n.f5[q] A' c')) = w5 at K5 N5 F5 HR5 ⊢; have hf5 := fun i => blk_cell F5.out i; have v5 := (HR5.out.cell (World.block_lt_of_cell? _ _ v0)).trans v0; have HK5 := Aside0.mk (HK'.out.below HR5.out); clear v0 HK' HCA)
          | ((with_reducible refine gate_dst (N := 52) rfl ?_); (refine gate_guard (by rfl) ?_; dsimp only); refine wpPartLd 52 rfl rfl 44 (.tmp 6) rfl _ rfl _ (nodeA n.f5[q] A' c') [] (K5.out) rfl Tryz.underlying44 rfl (by kernel_rfl) ?_)
          | (go_at_call 39; (with_reducible refine ((HRg.out _ HK5.out).mono ?_)); rintro e w6 ⟨rfl, hb⟩; have HR6 := Aside0.mk (HR5.out.trans (hb.mono HR5.out.size)); have K6 := Aside0.mk (blk_below K5.out hb); have N6 := Aside0.mk (blk_below N5.out hb); have F6 := Aside0.mk (blk_below F5.out hb); have HK6 := Aside0.mk (HK5.out.below hb); clear hb hf5)
          | ((with_reducible refine gate_dst (N := 57) rfl ?_); (refine gate_guard (by rfl) ?_; dsimp only); refine wpPartLd 57 rfl rfl 44 (.tmp 6) rfl _ rfl _ (nodeA n.f5[q] A' c') [] (K6.out) rfl Tryz.underlying44 rfl (by kernel_rfl) ?_)
          | (go_at_call 57; (with_reducible refine ((HLo.out _ HK6.out).mono ?_)); rintro e w7 ⟨rfl, hb⟩; have HR7 := Aside0.mk (HR6.out.trans (hb.mono HR6.out.size)); have N7 := Aside0.mk (blk_below N6.out hb); have F7 := Aside0.mk (blk_below F6.out hb); clear hb))
         go_roundw
         case rel => exact ⟨q + 1, by omega, by go_num, ⟨HX.out.trans HN.out⟩, ⟨below_step HB.out HR7.out⟩, N7, F7, ⟨Kd.C_below HCk.out HR7.out⟩⟩
         case measure => simp [intOf]; omega
        | false =>
         have HN : Aside0 ((if argsL lostB W (n.f5.drop q) q = true then (2 : Int) else 0) = 2) := ⟨by rw [HA.out, hv]; simp⟩
         clear HA hv
         go_wp2_with (first
          | ((with_reducible refine gate_dst (N := 39) rfl ?_); refine wpLdAt 39 rfl rfl 44 (.tmp 38) rfl (ad.add (q * 16)) rfl _ (nodeA n.f5[q] A' c') HCA.out Tryz.underlying44 rfl (by kernel_rfl) ?_)
          | ((with_reducible refine gate_store (t := 44) (p := 6) (v := .tmp 39) rfl ?_); refine wpRowSt rfl 44 (.tmp 6) (.tmp 39) rfl (wr.heap.size) (nodeA n.f5[q] A' c') rfl rfl 44 _ (newBlk wr _) (by kernel_rfl) rfl rfl ?_; have K5 := Aside0.mk (setRow_heap _ _ _ (nodeA n.f5[q] A' c') _ _ (newBlk wr (.cells Z16 44))); have N5 := Aside0.mk (rowNew HBk.out (.cells Z16 44) (nodeA n.f5[q] A' c')); have F5 := Aside0.mk (rowNew HFk.out (.cells Z16 44) (nodeA n.f5[q] A' c')); have HR5 := Aside0.mk (rowBelow (bel1 wr (.cells Z16 44)) (Nat.le_refl _) (nodeA n.f5[q] A' c')); generalize ((wr.alloc (.cells Z16 44)).setRow wr.heap.size (nodeA n.f5[q] A' c')) = w5 at K5 N5 F5 HR5 ⊢; have hf5 := fun i => blk_cell F5.out i; have v5 := (HR5.out.cell (World.block_lt_of_cell? _ _ v0)).trans v0; have HK5 := Aside0.mk (HK'.out.below HR5.out); clear v0 HK' HCA)
          | ((with_reducible refine gate_dst (N := 52) rfl ?_); (refine gate_guard (by rfl) ?_; dsimp only); refine wpPartLd 52 rfl rfl 44 (.tmp 6) rfl _ rfl _ (nodeA n.f5[q] A' c') [] (K5.out) rfl Tryz.underlying44 rfl (by kernel_rfl) ?_)
          | (go_at_call 39; (with_reducible refine ((HRg.out _ HK5.out).mono ?_)); rintro e w6 ⟨rfl, hb⟩; have HR6 := Aside0.mk (HR5.out.trans (hb.mono HR5.out.size)); have K6 := Aside0.mk (blk_below K5.out hb); have N6 := Aside0.mk (blk_below N5.out hb); have F6 := Aside0.mk (blk_below F5.out hb); have HK6 := Aside0.mk (HK5.out.below hb); clear hb hf5)
          | ((with_reducible refine gate_dst (N := 57) rfl ?_); (refine gate_guard (by rfl) ?_; dsimp only); refine wpPartLd 57 rfl rfl 44 (.tmp 6) rfl _ rfl _ (nodeA n.f5[q] A' c') [] (K6.out) rfl Tryz.underlying44 rfl (by kernel_rfl) ?_)
          | (go_at_call 57; (with_reducible refine ((HLo.out _ HK6.out).mono ?_)); rintro e w7 ⟨rfl, hb⟩; have HR7 := Aside0.mk (HR6.out.trans (hb.mono HR6.out.size)); have N7 := Aside0.mk (blk_below N6.out hb); have F7 := Aside0.mk (blk_below F6.out hb); clear hb))
         go_ret
         exact ⟨ret_i (HX.out.trans HN.out).symm, below_step HB.out HR7.out⟩
      ·have hvb : (v == 2) = false := by simp [hv]
       have HN : Aside0 ((if argsL lostB W (n.f5.drop q) q = true then (2 : Int) else 0) = (if argsL lostB W (n.f5.drop (q + 1)) (q + 1) = true then (2 : Int) else 0)) := ⟨by rw [HA.out]; simp [hv]⟩
       clear HA hv
       go_wp2_with (first
        | ((with_reducible refine gate_dst (N := 39) rfl ?_); refine wpLdAt 39 rfl rfl 44 (.tmp 38) rfl (ad.add (q * 16)) rfl _ (nodeA n.f5[q] A' c') HCA.out Tryz.underlying44 rfl (by kernel_rfl) ?_)
        | ((with_reducible refine gate_store (t := 44) (p := 6) (v := .tmp 39) rfl ?_); refine wpRowSt rfl 44 (.tmp 6) (.tmp 39) rfl (wr.heap.size) (nodeA n.f5[q] A' c') rfl rfl 44 _ (newBlk wr _) (by kernel_rfl) rfl rfl ?_; have K5 := Aside0.mk (setRow_heap _ _ _ (nodeA n.f5[q] A' c') _ _ (newBlk wr (.cells Z16 44))); have N5 := Aside0.mk (rowNew HBk.out (.cells Z16 44) (nodeA n.f5[q] A' c')); have F5 := Aside0.mk (rowNew HFk.out (.cells Z16 44) (nodeA n.f5[q] A' c')); have HR5 := Aside0.mk (rowBelow (bel1 wr (.cells Z16 44)) (Nat.le_refl _) (nodeA n.f5[q] A' c')); generalize ((wr.alloc (.cells Z16 44)).setRow wr.heap.size (nodeA n.f5[q] A' c')) = w5 at K5 N5 F5 HR5 ⊢; have hf5 := fun i => blk_cell F5.out i; have v5 := (HR5.out.cell (World.block_lt_of_cell? _ _ v0)).trans v0; have HK5 := Aside0.mk (HK'.out.below HR5.out); clear v0 HK' HCA))
       go_roundw
       case rel => exact ⟨q + 1, by omega, by go_num, ⟨HX.out.trans HN.out⟩, ⟨below_step HB.out HR5.out⟩, N5, F5, ⟨Kd.C_below HCk.out HR5.out⟩⟩
       case measure => simp [intOf]; omega
     ·have HN : Aside0 (r = 0) := ⟨HX.out.trans (by rw [List.drop_of_length_le (by omega)]; simp [argsL])⟩
      go_wp2
      go_ret
      exact ⟨ret_i HN.out.symm, HB.out⟩
theorem called_calls (n : Nd) (A : Option Addr) (c : Nat) (w : World) (hK : KidsC w A c n.f5) (hL0 : Aside0 (LaidW w)) :
  Calls Tryz.prog 36 #[nodeV n A c] w fun e w' => e = .returned (.int .i64 (calledR lostB (findT n.f4) n.f5)) ∧ Below w.heap.size w w' :=
 called_go findT n A c w hK ⟨fun s f e => findT_wants e⟩ ⟨fun s W hW => find_calls s W (LaidAt hL0 hW)⟩
end Go.Proofs.YtopdjokncbpghaaGreatDoor.Pr
end
section
namespace Go.Proofs.YtopdjokncbpghaaGreatDoor.Pr
open Go.RowKit Go.Shelf Go.Proofs.YtopdjokncbpghaaGreatDoorW.PrintWords Go.Proofs.YtopdjokncbpghaaGreatDoorW.PrintLast Go.Proofs.YtopdjokncbpghaaGreatDoorW.PrintMore
attribute [local go_sem] Oper.semAt_some
theorem uses_go (n : Nd) (A : Option Addr) (c : Nat) (name : ByteArray) (w : World) (hK : KidsC w A c n.f5)
  (HC : Aside0 (∀ W, Below w.heap.size w W → Calls Tryz.prog 34 #[nodeV n A c] W fun e w' => e = .returned (.int .i64 0) ∧ Below W.heap.size W w')) :
  CallsIn Fence.wide 5 Tryz.prog 20 #[nodeV n A c, .string name] w fun e w' => e = .returned (.bool ((preN n).any (callB name))) ∧ Below w.heap.size w w' := by
 have HB := Aside0.mk (bel3 w (.cells (nodeA n A c) 44) (.cells #[.string name] 9) (.cells #[.bool false] 4))
 have B1 := Aside0.mk (newBlk3a w (.cells (nodeA n A c) 44) (.cells #[.string name] 9) (.cells #[.bool false] 4))
 have B2 := Aside0.mk (newBlk3b w (.cells (nodeA n A c) 44) (.cells #[.string name] 9) (.cells #[.bool false] 4))
 have B3 := Aside0.mk (newBlk3c w (.cells (nodeA n A c) 44) (.cells #[.string name] 9) (.cells #[.bool false] 4))
 refine callsIn_of_wp_marks Tryz.func20 rfl trivial ?_ rfl
 simp only [Tryz.ntmps20, List.size_toArray, List.length_cons, List.length_nil, Nat.reduceAdd, Nat.reduceSub, Array.replicate_succ, Array.replicate_zero, List.push_toArray, List.append_toArray, List.nil_append, List.cons_append]
 gi_wp2_with (first
  | (refine wpPartLdIn 6 rfl rfl 44 (.tmp 2) rfl _ rfl _ (nodeA n A c) [] B1.out rfl Tryz.underlying44 rfl (by kernel_rfl) ?_)
  | ((try refine ⟨trivial, ?_⟩); gi_at_call 34; refine (callsIn_wide.2 (HC.out _ (bel3 w _ _ _))).mono ?_; rintro e w1 ⟨rfl, hb⟩; have HB1 := Aside0.mk (below_step HB.out hb); have C1 := Aside0.mk (blk_below B1.out hb); have C2 := Aside0.mk (blk_below B2.out hb); have C3 := Aside0.mk (blk_below B3.out hb); clear hb B1 B2 B3 HB)
  | (refine wpPartLdIn 9 rfl rfl 44 (.tmp 2) rfl _ rfl _ (nodeA n A c) [] C1.out rfl Tryz.underlying44 rfl (by kernel_rfl) ?_)
  | ((try refine ⟨trivial, ?_⟩); gi_at_call 35; refine (callsIn_wide.2 (all_calls n A c _)).mono ?_; rintro e w2 ⟨rfl, rfl⟩))
 have bS : Boxed (w1.alloc (.cells (nodeA n A c) 44)) (w.heap.size + 1) 9 (.string name) := blk_alloc C2.out _
 have bO : Boxed (w1.alloc (.cells (nodeA n A c) 44)) (w.heap.size + 2) 4 (.bool false) := blk_alloc C3.out _
 have bN := newBlk w1 (.cells (nodeA n A c) 44)
 have hB0 : Below w.heap.size w (w1.alloc (.cells (nodeA n A c) 44)) := below_alloc HB1.out _
 have hsz : (w1.alloc (.cells (nodeA n A c) 44)).heap.size = w1.heap.size + 1 := by simp
 have hs2 : w.heap.size + 3 ≤ w1.heap.size := by have := blk_lt C3.out; omega
 obtain ⟨W0, hW0⟩ : ∃ W0, (w1.alloc (.cells (nodeA n A c) 44)) = W0 := ⟨_, rfl⟩
 rw [hW0] at bS bO bN hB0 hsz ⊢
 clear hW0
 have hg0 : GoodB (w.heap.size + 2) W0 := by
  intro b hb
  rw [ownB_boxed bO] at hb
  cases hb
 refine wpIn_rangeFunc_ownH rfl (by omega) (gf := 55) (lb := #[.pointer (some ⟨w1.heap.size, 0, none⟩)]) rfl trivial (enters_of Tryz.func55 (by kernel_rfl) rfl)
  (all_stops (w.heap.size + 2) w1.heap.size 4 w n A c W0 bN hK hB0 hg0 (by omega)) KpB.trans (fun W l o o' hl h hc hw => KpB.putObj (w := W0) (by omega) (by omega) W l o o' hl h hc hw) (Below.refl _ _) (fun _ => rfl)
  (fun pre W => ((pre.map NodeAt.nd).any (callB name) = false ∧ Boxed W (w.heap.size + 1) 9 (.string name)) ∧ Boxed W (w.heap.size + 2) 4 (.bool false) ∧ Below w.heap.size w W)
  (fun cd pre W => (cd = .ret ∧ (pre.map NodeAt.nd).any (callB name) = true) ∧ Boxed W (w.heap.size + 2) 4 (.bool true) ∧ Below w.heap.size w W)
  (OwnFrom.and (OwnFrom.and (ownFrom_pure _ _) ((boxed_own _ _ (fun _ => Value.string name)).from _)) (OwnFrom.and ((boxed_own _ _ (fun _ => Value.bool false)).from _) (ownFrom_below (Nat.le_refl _) (by omega))))
  (fun cd => OwnFrom.and (ownFrom_pure _ _) (OwnFrom.and ((boxed_own _ _ (fun _ => Value.bool true)).from _) (ownFrom_below (Nat.le_refl _) (by omega))))
  ⟨⟨rfl, bS⟩, bO, hB0⟩
  (fun x a' W => ∃ Bx, W.heap[Bx]? = some (.cells (nodeA x.1.1 x.1.2.1 x.1.2.2) 44 (0, 0)) ∧ a' = { tmps := #[nodeV n A c, .string name, .pointer (some ⟨w.heap.size, 0, none⟩), .pointer (some ⟨w.heap.size + 1, 0, none⟩), .pointer (some ⟨w.heap.size + 2, 0, none⟩), .pointer (some ⟨Bx, 0, none⟩), .agg (nodeA n A c), .int .i64 0, .bool false, .agg (nodeA n A c), .func (.func 55) #[] #[.pointer (some ⟨w1.heap.size, 0, none⟩)], nodeV x.1.1 x.1.2.1 x.1.2.2, undef, undef, undef, undef, undef, undef, undef, undef, undef], defers := [] })
  (fun x a' _ X Y row hs hg hr => by
   obtain ⟨Bx, h2, h3⟩ := hs
   refine ⟨Bx, blk_grown h2 hg (fun e => ?_), h3⟩
   obtain ⟨_, o, ho, hn⟩ := hr Bx e.symm
   rw [h2] at ho
   cases ho
   cases hn)
  ?assign ?body ?done ?stop
 case assign =>
  rintro l pre x W K ⟨⟨hp, hS⟩, hO, hB1⟩ hK'
  gi_wp2
  have hlt := blk_lt hO
  exact hK' _ _ ((KeepsOthers.alloc _ _).from _) (KpB.alloc (by omega) hlt _) ⟨⟨hp, blk_alloc hS _⟩, blk_alloc hO _, below_alloc hB1 _⟩ ⟨W.heap.size, newBlk W _, rfl⟩
 case body =>
  rintro l pre x a' W hl ⟨r, hr⟩ ⟨⟨hp, hS⟩, hO, hB1⟩ ⟨Bx, bX, rfl⟩ hlt
  have hsn : ((pre ++ [x]).map NodeAt.nd).any (callB name) = callB name x.1.1 := by rw [List.map_append, List.any_append, hp]; simp [NodeAt.nd]
  clear hlt
  obtain ⟨⟨m, A3, c3⟩, hx⟩ := x
  simp only at hx bX hsn ⊢
  have cX := fun (i : Nat) => blk_cell bX i
  have cS := fun (i : Nat) => blk_cell hS i
  have cO := fun (i : Nat) => blk_cell hO i
  have fO := fun (i : Nat) => blk_frozen hO i
  have hlt := blk_lt hO
  have HP := Aside0.mk (⟨hS, hO, hB1⟩ : _ ∧ _ ∧ _)
  have HN := Aside0.mk hsn
  clear hsn hp hS hO hB1
  by_cases hk : m.f0 = 6
  ·have k1 : (m.f0 == 6) = true := by simp [hk]
   by_cases hs : m.f4 = name
   ·have k2 : (m.f4.toList == name.toList) = true := by rw [hs]; exact beq_self_eq_true _
    have hv : callB name m = true := by unfold callB; simp [hk, hs]
    clear hk hs
    gi_wp2
    exact ⟨(KeepsOthers.setCell _ _ _).from _, ⟨rfl, HN.out.trans hv⟩, HP.out.2.1.set _, HP.out.2.2.setCell (p := ⟨w.heap.size + 2, 0, none⟩) (by show w.heap.size ≤ w.heap.size + 2; omega) _⟩
   ·have k2 : (m.f4.toList == name.toList) = false := beq_eq_false_iff_ne.2 (fun e => hs (by rw [ByteArray.toList_eq, ByteArray.toList_eq] at e; exact ByteArray.ext (Array.toList_inj.1 e)))
    have hv : callB name m = false := callB_ne hs
    clear hk hs
    gi_wp2
    exact ⟨(KeepsOthers.refl _).from _, KpB.refl _ _ _, ⟨HN.out.trans hv, HP.out.1⟩, HP.out.2.1, HP.out.2.2⟩
  ·have k1 : (m.f0 == 6) = false := by simp [hk]
   have hv : callB name m = false := by unfold callB; simp [hk]
   clear hk
   gi_wp2
   exact ⟨(KeepsOthers.refl _).from _, KpB.refl _ _ _, ⟨HN.out.trans hv, HP.out.1⟩, HP.out.2.1, HP.out.2.2⟩
 case done =>
  rintro D zs W hD hS ⟨⟨hp, -⟩, hO, hB1⟩ hKd
  rw [hS] at hp
  have cO := fun (i : Nat) => blk_cell hO i
  have fO := fun (i : Nat) => blk_frozen hO i
  gi_wp2
  have hK' := (KeepsOthers.setCell W ⟨w.heap.size + 2, 0, none⟩ (.bool false)).same D _ hKd rfl
  refine ⟨by simp, .inl ⟨_, _, rfl, run_takeDeferred hK', ?_⟩⟩
  have hc5 := Boxed.cell ((boxed_own (w.heap.size + 2) 4 (fun (_ : Unit) => Value.bool false)) () _ _ (some D) (hO.set (.bool false)) (grownBy_putObj' _ D (.deferred none)) (fun r e => by cases e; exact ⟨_, hK', rfl⟩))
  refine ⟨.bool false, ?_, by rw [hp], (hB1.setCell (p := ⟨w.heap.size + 2, 0, none⟩) (by show w.heap.size ≤ w.heap.size + 2; omega) _).trans (belowK_b (w := w) (Nat.le_refl _) _ D _ _ (by omega) hK' rfl rfl)⟩
  simp [results, Tryz.results20, go_sem, hc5]
 case stop =>
  rintro D cd pre W hD ⟨t, ht⟩ ⟨⟨rfl, hp⟩, hO, hB1⟩ hKd
  have hv : (preN n).any (callB name) = true := by rw [← ht, List.any_append, hp]; rfl
  gi_wp2
  refine ⟨by simp, .inl ⟨_, _, rfl, run_takeDeferred hKd, ?_⟩⟩
  have hc5 := Boxed.cell ((boxed_own (w.heap.size + 2) 4 (fun (_ : Unit) => Value.bool true)) () _ _ (some D) hO (grownBy_putObj' _ D (.deferred none)) (fun r e => by cases e; exact ⟨_, hKd, rfl⟩))
  refine ⟨.bool true, ?_, by rw [hv], hB1.trans (belowK_b (w := w) (Nat.le_refl _) _ D _ _ (by omega) hKd rfl rfl)⟩
  simp [results, Tryz.results20, go_sem, hc5]
theorem uses_bad (n : Nd) (A : Option Addr) (c : Nat) (name : ByteArray) (q : Int) (hq : ¬q = 0) (w : World)
  (HC : Aside0 (∀ W, Below w.heap.size w W → Calls Tryz.prog 34 #[nodeV n A c] W fun e w' => e = .returned (.int .i64 q) ∧ Below W.heap.size W w')) :
  Calls Tryz.prog 20 #[nodeV n A c, .string name] w fun e w' => e = .returned (.bool false) ∧ Below w.heap.size w w' := by
 have HB := Aside0.mk (bel3 w (.cells (nodeA n A c) 44) (.cells #[.string name] 9) (.cells #[.bool false] 4))
 have B1 := Aside0.mk (newBlk3a w (.cells (nodeA n A c) 44) (.cells #[.string name] 9) (.cells #[.bool false] 4))
 have B3 := Aside0.mk (newBlk3c w (.cells (nodeA n A c) 44) (.cells #[.string name] 9) (.cells #[.bool false] 4))
 have q1 : (q != 0) = true := by simp [hq]
 go_enter Tryz.func20, Tryz.ntmps20
 go_wp2_with (first
  | ((with_reducible refine gate_dst (N := 6) rfl ?_); refine wpPartLd 6 rfl rfl 44 (.tmp 2) rfl _ rfl _ (nodeA n A c) [] B1.out rfl Tryz.underlying44 rfl (by kernel_rfl) ?_)
  | (go_at_call 34; (with_reducible refine (HC.out _ (bel3 w _ _ _)).mono ?_); rintro e w1 ⟨rfl, hb⟩; have HB1 := Aside0.mk (below_step HB.out hb); have C3 := Aside0.mk (blk_below B3.out hb); have cO := fun (i : Nat) => blk_cell C3.out i; have fO := fun (i : Nat) => blk_frozen C3.out i; clear hb))
 have hc5 := Boxed.cell (t := 4) ((show Boxed w1 (w.heap.size + 2) 4 (.bool false) from C3.out).set (.bool false))
 refine bodyPost_ret (v := .bool false) ?_ rfl ⟨rfl, HB1.out.setCell (p := ⟨w.heap.size + 2, 0, none⟩) (by show w.heap.size ≤ w.heap.size + 2; omega) _⟩
 simp [results, Tryz.results20, go_sem, hc5]
end Go.Proofs.YtopdjokncbpghaaGreatDoor.Pr
end
