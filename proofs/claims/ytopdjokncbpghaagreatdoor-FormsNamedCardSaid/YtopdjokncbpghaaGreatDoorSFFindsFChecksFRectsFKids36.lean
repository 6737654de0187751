/-
  Lemmas for the law FFindsFChecksFRectsFKids.
-/
import Derived.Test.YtopdjokncbpghaaGreatDoorSFFindsFChecksFRectsFKids34
import Derived.Test.YtopdjokncbpghaaGreatDoorSFFindsFChecksFRectsFKids32
import Derived.Test.YtopdjokncbpghaaGreatDoorSFFindsFChecksFRectsFKids6
import Derived.Test.YtopdjokncbpghaaGreatDoorSFFindsFChecksFRectsFKids7
import Derived.Test.YtopdjokncbpghaaGreatDoorSFFindsFChecksFRectsFKids33
import Derived.Test.YtopdjokncbpghaaGreatDoorSFFindsFChecksFRectsFKids23
import Derived.Test.YtopdjokncbpghaaGreatDoorSFFindsFChecksFRectsFKids15
set_option maxHeartbeats 8000000
set_option maxRecDepth 100000
set_option linter.unusedVariables false
set_option linter.unusedSimpArgs false
section
namespace Go.Proofs.YtopdjokncbpghaaGreatDoor.Pr
open Go.RowKit Go.Shelf Go.Proofs.YtopdjokncbpghaaGreatDoorW.PrintWords Go.Proofs.YtopdjokncbpghaaGreatDoorW.PrintLast Go.Proofs.YtopdjokncbpghaaGreatDoorW.PrintMore
attribute [local go_sem] Oper.semAt_some
theorem uses_go (n : Nd) (A : Option Addr) (c : Nat) (name : ByteArray) (w : World) (hK : KidsC w A c n.f5)
  (HC : Aside0 (∀ W, Below w.heap.size w W → Calls Tryz.prog 34 #[nodeV n A c] W fun e w' => e = .returned (.int .i64 0) ∧ Below W.heap.size W w')) :
  CallsIn Fence.wide 5 Tryz.prog 20 #[nodeV n A c, .string name] w fun e w' => e = .returned (.bool ((preN n).any (callB name))) ∧ Below w.heap.size w w' := by
 have HB := Aside0.mk (bel3 w (.cells (nodeA n A c) 44) (.cells #[.string name] 9) (.cells #[.bool false] 4))
 have B1 := Aside0.mk (newBlk3a w (.cells (nodeA n A c) 44) (.cells #[.string name] 9) (.cells #[.bool false] 4))
 have B2 := Aside0.mk (newBlk3b w (.cells (nodeA n A c) 44) (.cells #[.string name] 9) (.cells #[.bool false] 4))
 have B3 := Aside0.mk (newBlk3c w (.cells (nodeA n A c) 44) (.cells #[.string name] 9) (.cells #[.bool false] 4))
 refine callsIn_of_wp_marks Tryz.func20 rfl trivial ?_ rfl
 simp only [Tryz.ntmps20, List.size_toArray, List.length_cons, List.length_nil, Nat.reduceAdd, Nat.reduceSub, Array.replicate_succ, Array.replicate_zero, List.push_toArray, List.append_toArray, List.nil_append, List.cons_append]
 gi_wp2_with (first
  | (refine wpPartLdIn 6 rfl rfl 44 (.tmp 2) rfl _ rfl _ (nodeA n A c) [] B1.out rfl Tryz.underlying44 rfl (by kernel_rfl) ?_)
  | ((try refine ⟨trivial, ?_⟩); gi_at_call 34; refine (callsIn_wide.2 (HC.out _ (bel3 w _ _ _))).mono ?_; rintro e w1 ⟨rfl, hb⟩; have HB1 := Aside0.mk (below_step HB.out hb); have C1 := Aside0.mk (blk_below B1.out hb); have C2 := Aside0.mk (blk_below B2.out hb); have C3 := Aside0.mk (blk_below B3.out hb); clear hb B1 B2 B3 HB)
  | (refine wpPartLdIn 9 rfl rfl 44 (.tmp 2) rfl _ rfl _ (nodeA n A c) [] C1.out rfl Tryz.underlying44 rfl (by kernel_rfl) ?_)
  | ((try refine ⟨trivial, ?_⟩); gi_at_call 35; refine (callsIn_wide.2 (all_calls n A c _)).mono ?_; rintro e w2 ⟨rfl, rfl⟩))
 have bS : Boxed (w1.alloc (.cells (nodeA n A c) 44)) (w.heap.size + 1) 9 (.string name) := blk_alloc C2.out _
 have bO : Boxed (w1.alloc (.cells (nodeA n A c) 44)) (w.heap.size + 2) 4 (.bool false) := blk_alloc C3.out _
 have bN := newBlk w1 (.cells (nodeA n A c) 44)
 have hB0 : Below w.heap.size w (w1.alloc (.cells (nodeA n A c) 44)) := below_alloc HB1.out _
 have hsz : (w1.alloc (.cells (nodeA n A c) 44)).heap.size = w1.heap.size + 1 := by simp
 have hs2 : w.heap.size + 3 ≤ w1.heap.size := by have := blk_lt C3.out; omega
 obtain ⟨W0, hW0⟩ : ∃ W0, (w1.alloc (.cells (nodeA n A c) 44)) = W0 := ⟨_, rfl⟩
 rw [hW0] at bS bO bN hB0 hsz ⊢
 clear hW0
 have hg0 : GoodB (w.heap.size + 2) W0 := by
  intro b hb
  rw [ownB_boxed bO] at hb
  cases hb
 refine wpIn_rangeFunc_ownH rfl (by omega) (gf := 55) (lb := #[.pointer (some ⟨w1.heap.size, 0, none⟩)]) rfl trivial (enters_of Tryz.func55 (by kernel_rfl) rfl)
  (all_stops (w.heap.size + 2) w1.heap.size 4 w n A c W0 bN hK hB0 hg0 (by omega)) KpB.trans (fun W l o o' hl h hc hw => KpB.putObj (w := W0) (by omega) (by omega) W l o o' hl h hc hw) (Below.refl _ _) (fun _ => rfl)
  (fun pre W => ((pre.map NodeAt.nd).any (callB name) = false ∧ Boxed W (w.heap.size + 1) 9 (.string name)) ∧ Boxed W (w.heap.size + 2) 4 (.bool false) ∧ Below w.heap.size w W)
  (fun cd pre W => (cd = .ret ∧ (pre.map NodeAt.nd).any (callB name) = true) ∧ Boxed W (w.heap.size + 2) 4 (.bool true) ∧ Below w.heap.size w W)
  (OwnFrom.and (OwnFrom.and (ownFrom_pure _ _) ((boxed_own _ _ (fun _ => Value.string name)).from _)) (OwnFrom.and ((boxed_own _ _ (fun _ => Value.bool false)).from _) (ownFrom_below (Nat.le_refl _) (by omega))))
  (fun cd => OwnFrom.and (ownFrom_pure _ _) (OwnFrom.and ((boxed_own _ _ (fun _ => Value.bool true)).from _) (ownFrom_below (Nat.le_refl _) (by omega))))
  ⟨⟨rfl, bS⟩, bO, hB0⟩
  (fun x a' W => ∃ Bx, W.heap[Bx]? = some (.cells (nodeA x.1.1 x.1.2.1 x.1.2.2) 44 (0, 0)) ∧ a' = { tmps := #[nodeV n A c, .string name, .pointer (some ⟨w.heap.size, 0, none⟩), .pointer (some ⟨w.heap.size + 1, 0, none⟩), .pointer (some ⟨w.heap.size + 2, 0, none⟩), .pointer (some ⟨Bx, 0, none⟩), .agg (nodeA n A c), .int .i64 0, .bool false, .agg (nodeA n A c), .func (.func 55) #[] #[.pointer (some ⟨w1.heap.size, 0, none⟩)], nodeV x.1.1 x.1.2.1 x.1.2.2, undef, undef, undef, undef, undef, undef, undef, undef, undef], defers := [] })
  (fun x a' _ X Y row hs hg hr => by
   obtain ⟨Bx, h2, h3⟩ := hs
   refine ⟨Bx, blk_grown h2 hg (fun e => ?_), h3⟩
   obtain ⟨_, o, ho, hn⟩ := hr Bx e.symm
   rw [h2] at ho
   cases ho
   cases hn)
  ?assign ?body ?done ?stop
 case assign =>
  rintro l pre x W K ⟨⟨hp, hS⟩, hO, hB1⟩ hK'
  gi_wp2
  have hlt := blk_lt hO
  exact hK' _ _ ((KeepsOthers.alloc _ _).from _) (KpB.alloc (by omega) hlt _) ⟨⟨hp, blk_alloc hS _⟩, blk_alloc hO _, below_alloc hB1 _⟩ ⟨W.heap.size, newBlk W _, rfl⟩
 case body =>
  rintro l pre x a' W hl ⟨r, hr⟩ ⟨⟨hp, hS⟩, hO, hB1⟩ ⟨Bx, bX, rfl⟩ hlt
  have hsn : ((pre ++ [x]).map NodeAt.nd).any (callB name) = callB name x.1.1 := by rw [List.map_append, List.any_append, hp]; simp [NodeAt.nd]
  clear hlt
  obtain ⟨⟨m, A3, c3⟩, hx⟩ := x
  simp only at hx bX hsn ⊢
  have cX := fun (i : Nat) => blk_cell bX i
  have cS := fun (i : Nat) => blk_cell hS i
  have cO := fun (i : Nat) => blk_cell hO i
  have fO := fun (i : Nat) => blk_frozen hO i
  have hlt := blk_lt hO
  have HP := Aside0.mk (⟨hS, hO, hB1⟩ : _ ∧ _ ∧ _)
  have HN := Aside0.mk hsn
  clear hsn hp hS hO hB1
  by_cases hk : m.f0 = 6
  ·have k1 : (m.f0 == 6) = true := by simp [hk]
   by_cases hs : m.f4 = name
   ·have k2 : (m.f4.toList == name.toList) = true := by rw [hs]; exact beq_self_eq_true _
    have hv : callB name m = true := by unfold callB; simp [hk, hs]
    clear hk hs
    gi_wp2
    exact ⟨(KeepsOthers.setCell _ _ _).from _, ⟨rfl, HN.out.trans hv⟩, HP.out.2.1.set _, HP.out.2.2.setCell (p := ⟨w.heap.size + 2, 0, none⟩) (by show w.heap.size ≤ w.heap.size + 2; omega) _⟩
   ·have k2 : (m.f4.toList == name.toList) = false := beq_eq_false_iff_ne.2 (fun e => hs (by rw [ByteArray.toList_eq, ByteArray.toList_eq] at e; exact ByteArray.ext (Array.toList_inj.1 e)))
    have hv : callB name m = false := callB_ne hs
    clear hk hs
    gi_wp2
    exact ⟨(KeepsOthers.refl _).from _, KpB.refl _ _ _, ⟨HN.out.trans hv, HP.out.1⟩, HP.out.2.1, HP.out.2.2⟩
  ·have k1 : (m.f0 == 6) = false := by simp [hk]
   have hv : callB name m = false := by unfold callB; simp [hk]
   clear hk
   gi_wp2
   exact ⟨(KeepsOthers.refl _).from _, KpB.refl _ _ _, ⟨HN.out.trans hv, HP.out.1⟩, HP.out.2.1, HP.out.2.2⟩
 case done =>
  rintro D zs W hD hS ⟨⟨hp, -⟩, hO, hB1⟩ hKd
  rw [hS] at hp
  have cO := fun (i : Nat) => blk_cell hO i
  have fO := fun (i : Nat) => blk_frozen hO i
  gi_wp2
  have hK' := (KeepsOthers.setCell W ⟨w.heap.size + 2, 0, none⟩ (.bool false)).same D _ hKd rfl
  refine ⟨by simp, .inl ⟨_, _, rfl, run_takeDeferred hK', ?_⟩⟩
  have hc5 := Boxed.cell ((boxed_own (w.heap.size + 2) 4 (fun (_ : Unit) => Value.bool false)) () _ _ (some D) (hO.set (.bool false)) (grownBy_putObj' _ D (.deferred none)) (fun r e => by cases e; exact ⟨_, hK', rfl⟩))
  refine ⟨.bool false, ?_, by rw [hp], (hB1.setCell (p := ⟨w.heap.size + 2, 0, none⟩) (by show w.heap.size ≤ w.heap.size + 2; omega) _).trans (belowK_b (w := w) (Nat.le_refl _) _ D _ _ (by omega) hK' rfl rfl)⟩
  simp [results, Tryz.results20, go_sem, hc5]
 case stop =>
  rintro D cd pre W hD ⟨t, ht⟩ ⟨⟨rfl, hp⟩, hO, hB1⟩ hKd
  have hv : (preN n).any (callB name) = true := by rw [← ht, List.any_append, hp]; rfl
  gi_wp2
  refine ⟨by simp, .inl ⟨_, _, rfl, run_takeDeferred hKd, ?_⟩⟩
  have hc5 := Boxed.cell ((boxed_own (w.heap.size + 2) 4 (fun (_ : Unit) => Value.bool true)) () _ _ (some D) hO (grownBy_putObj' _ D (.deferred none)) (fun r e => by cases e; exact ⟨_, hKd, rfl⟩))
  refine ⟨.bool true, ?_, by rw [hv], hB1.trans (belowK_b (w := w) (Nat.le_refl _) _ D _ _ (by omega) hKd rfl rfl)⟩
  simp [results, Tryz.results20, go_sem, hc5]
theorem uses_bad (n : Nd) (A : Option Addr) (c : Nat) (name : ByteArray) (q : Int) (hq : ¬q = 0) (w : World)
  (HC : Aside0 (∀ W, Below w.heap.size w W → Calls Tryz.prog 34 #[nodeV n A c] W fun e w' => e = .returned (.int .i64 q) ∧ Below W.heap.size W w')) :
  Calls Tryz.prog 20 #[nodeV n A c, .string name] w fun e w' => e = .returned (.bool false) ∧ Below w.heap.size w w' := by
 have HB := Aside0.mk (bel3 w (.cells (nodeA n A c) 44) (.cells #[.string name] 9) (.cells #[.bool false] 4))
 have B1 := Aside0.mk (newBlk3a w (.cells (nodeA n A c) 44) (.cells #[.string name] 9) (.cells #[.bool false] 4))
 have B3 := Aside0.mk (newBlk3c w (.cells (nodeA n A c) 44) (.cells #[.string name] 9) (.cells #[.bool false] 4))
 have q1 : (q != 0) = true := by simp [hq]
 go_enter Tryz.func20, Tryz.ntmps20
 go_wp2_with (first
  | ((with_reducible refine gate_dst (N := 6) rfl ?_); refine wpPartLd 6 rfl rfl 44 (.tmp 2) rfl _ rfl _ (nodeA n A c) [] B1.out rfl Tryz.underlying44 rfl (by kernel_rfl) ?_)
  | (go_at_call 34; (with_reducible refine (HC.out _ (bel3 w _ _ _)).mono ?_); rintro e w1 ⟨rfl, hb⟩; have HB1 := Aside0.mk (below_step HB.out hb); have C3 := Aside0.mk (blk_below B3.out hb); have cO := fun (i : Nat) => blk_cell C3.out i; have fO := fun (i : Nat) => blk_frozen C3.out i; clear hb))
 have hc5 := Boxed.cell (t := 4) ((show Boxed w1 (w.heap.size + 2) 4 (.bool false) from C3.out).set (.bool false))
 refine bodyPost_ret (v := .bool false) ?_ rfl ⟨rfl, HB1.out.setCell (p := ⟨w.heap.size + 2, 0, none⟩) (by show w.heap.size ≤ w.heap.size + 2; omega) _⟩
 simp [results, Tryz.results20, go_sem, hc5]
theorem rects_bad (n : Nd) (A : Option Addr) (c : Nat) (q : Int) (hq : ¬q = 0) (w : World)
  (HC : Aside0 (∀ W, Below w.heap.size w W → Calls Tryz.prog 34 #[nodeV n A c] W fun e w' => e = .returned (.int .i64 q) ∧ Below W.heap.size W w')) :
  Calls Tryz.prog 17 #[nodeV n A c] w fun e w' => e = .returned (.tuple #[.slice none 0 0, .int .i64 q]) ∧ Below w.heap.size w w' := by
 have HB := Aside0.mk (bel1 w (.cells (nodeA n A c) 44))
 have B1 := Aside0.mk (newBlk w (.cells (nodeA n A c) 44))
 have q1 : (q != 0) = true := by simp [hq]
 go_enter Tryz.func17, Tryz.ntmps17
 go_wp2_with (first
  | ((with_reducible refine gate_dst (N := 8) rfl ?_); refine wpPartLd 8 rfl rfl 44 (.tmp 1) rfl _ rfl _ (nodeA n A c) [] B1.out rfl Tryz.underlying44 rfl (by kernel_rfl) ?_)
  | (go_at_call 34; (with_reducible refine (HC.out _ (bel1 w _)).mono ?_); rintro e w1 ⟨rfl, hb⟩; have HB1 := Aside0.mk (below_step HB.out hb); clear hb))
 go_ret2
 exact ⟨rfl, HB1.out⟩
end Go.Proofs.YtopdjokncbpghaaGreatDoor.Pr
end
section
namespace Go.Proofs.YtopdjokncbpghaaGreatDoor.Pr
open Go.RowKit Go.Proofs.YtopdjokncbpghaaGreatDoorW.PrintWords Go.Proofs.YtopdjokncbpghaaGreatDoorW.PrintLast Go.Proofs.YtopdjokncbpghaaGreatDoorW.PrintMore
theorem refOf_S (a0 a1 b0 b1 : Int) : ∃ e, foolscapref05_Of.f a0 a1 b0 b1 = some ((ofS a0 a1 b0 b1).t, (ofS a0 a1 b0 b1).l, (ofS a0 a1 b0 b1).o, (ofS a0 a1 b0 b1).r, e) := by
 unfold foolscapref05_Of.f ofS
 rw [ref_Place_B, ref_Place_B]
 cases placeB a0 a1 <;> cases placeB b0 b1 <;> exact ⟨_, rfl⟩
theorem with9 (l : List S_R) (x : S_R) (hl : l.length < 1000000) : ∀ (k i : Nat), i ≤ l.length → l.length < i + k →
  foolscapref09_with.l0 k l (i : Int) x.f0 x.f1 x.f2 x.f3 = some (if x ∈ l.drop i then l else l ++ [x])
 | 0, i, hi, h => by exfalso; omega
 | k + 1, i, hi, h => by
  rw [foolscapref09_with.l0]
  by_cases h1 : i < l.length
  ·have hg : rd_T58 l (i : Int) = l[i] := by
    unfold rd_T58
    rw [Int.toNat_natCast, List.getD_eq_getElem?_getD, List.getElem?_eq_getElem h1]; rfl
   rw [if_pos (by omega), if_pos (by omega), hg, List.drop_eq_getElem_cons h1]
   by_cases he : x = l[i]
   ·rw [if_pos (by rw [← he]; simp), if_pos (List.mem_cons.2 (.inl he))]
   ·rw [if_neg (by
     intro hc
     simp only [Bool.and_eq_true, beq_iff_eq] at hc
     obtain ⟨h0, h1, h2, h3⟩ := hc
     apply he
     cases x
     generalize hL : l[i] = y at h0 h1 h2 h3 ⊢
     cases y
     simp only at h0 h1 h2 h3
     subst h0 h1 h2 h3
     rfl)]
    rw [show wrap64 ((i : Int) + 1) = ((i + 1 : Nat) : Int) by unfold wrap64; omega, with9 l x hl k (i + 1) (by omega) (by omega)]
    by_cases hm : x ∈ l.drop (i + 1)
    ·rw [if_pos hm, if_pos (List.mem_cons.2 (.inr hm))]
    ·rw [if_neg hm, if_neg (fun h => hm ((List.mem_cons.1 h).resolve_left he))]
  ·rw [if_neg (by omega), List.drop_eq_nil_of_le (by omega), if_pos (by omega), if_neg (by simp)]
def addR (l : List S_R) (x : S_R) : List S_R := if x ∈ l then l else l ++ [x]
theorem with_calls (P : Nat → Prop) (u : Value) (l : List S_R) (x : S_R) (w0 w : World) (hl : l.length < 1000000) (hB : Below w0.heap.size w0 w) (hR : Kd.R k58 58 w w0.heap.size P u l) :
  Calls Tryz.prog 62 #[u, .agg #[.int .i64 x.f0, .int .i64 x.f1, .int .i64 x.f2, .int .i64 x.f3]] w fun e w' => ∃ v, e = .returned v ∧ Kd.R k58 58 w' w0.heap.size (fun k => P k ∨ w.heap.size ≤ k) v (addR l x) ∧ Below w0.heap.size w0 w' ∧ Kept w w' P :=
 foolscapref09_with.calls (l.length + 1) P u l x.f0 x.f1 x.f2 x.f3 _ w0 w hB hR (by unfold foolscapref09_with.f; rw [show (0 : Int) = ((0 : Nat) : Int) from rfl, with9 l x hl _ 0 (Nat.zero_le _) (by omega), List.drop_zero]; rfl)
theorem named_calls (w0 : World) (d : Nat) : ∀ (n : Nd) (A : Option Addr) (c : Nat) (P0 : Nat → Prop) (u : Value) (l : List S_R) (w : World) (hd : szN n < d) (hK : KidsC w0 A c n.f5) (hB0 : Below w0.heap.size w0 w) (hR0 : Kd.R k58 58 w w0.heap.size P0 u l) (hL : l.length + (preN n).length ≤ 10000),
  Calls Tryz.prog 42 #[u, nodeV n A c] w fun e w' => ∃ v, e = .returned v ∧ Kd.R k58 58 w' w0.heap.size (fun k => P0 k ∨ w.heap.size ≤ k) v (foldR l (preN n)) ∧ Below w0.heap.size w0 w' ∧ Kept w w' P0 := by
 induction d with
 | zero => intro n A c P0 u l w hd; omega
 | succ d ih =>
  intro n A c P0 u l w hd hK hB0 hR00 hL
  obtain ⟨hlc, hC⟩ := hK
  have hmax := hC.2.1
  obtain ⟨P, hPd⟩ : ∃ P : Nat → Prop, P = fun k => P0 k ∧ w0.heap.size ≤ k ∧ k < w.heap.size := ⟨_, rfl⟩
  have hR0 := Kd.R_mono (Kd.R_bound hR00) (ok' := P) (fun k hk => by rw [hPd]; exact ⟨hk.1, hk.2.1, hk.2.2.1⟩)
  have HP : Aside0 (∀ k, P k → k < w.heap.size) := ⟨fun k hk => by rw [hPd] at hk; exact hk.2.2⟩
  have HP0 : Aside0 (∀ k, P k → P0 k) := ⟨fun k hk => by rw [hPd] at hk; exact hk.1⟩
  clear hPd hR00
  have HC := Aside0.mk hC
  have HI := Aside0.mk ih
  have HD := Aside0.mk hd
  have HL := Aside0.mk hL
  have HB0 := Aside0.mk hB0
  have HR0 := Aside0.mk hR0
  clear hC ih hd hL hB0 hR0
  suffices hmain : Calls Tryz.prog 42 #[u, nodeV n A c] w fun e w' => ∃ v, e = .returned v ∧ Kd.R k58 58 w' w0.heap.size (fun k => P k ∨ w.heap.size ≤ k) v (foldR (addS l n) (preL n.f5)) ∧ Below w0.heap.size w0 w' ∧ Kept w w' P by
   refine hmain.mono ?_
   rintro e w' ⟨v, rfl, hR, hb, hk⟩
   rw [foldR_pre]
   exact ⟨v, rfl, Kd.R_mono hR (fun k h => h.imp (HP0.out k) id), hb, ⟨hk.1, fun i hi hn => hk.2 i hi (fun hq => hn (HP0.out _ hq))⟩⟩
  have B1 := Aside0.mk (newBlk w (.cells (nodeA n A c) 44))
  have hb1 := fun (i : Nat) => blk_cell (newBlk w (.cells (nodeA n A c) 44)) i
  by_cases h2 : n.f0 = 2
  ·have h2b : (n.f0 == 2) = true := by simp [h2]
   have HAd : Aside0 (addS l n = addR l (rcS n)) := ⟨by unfold addS addR; rw [if_pos (by unfold rgB; simp [h2])]⟩
   have HO : Aside0 (∀ W, Calls Tryz.prog 61 #[.agg #[.int .i64 n.f2.f0.f0, .int .i64 n.f2.f0.f1], .agg #[.int .i64 n.f2.f0.f0, .int .i64 n.f2.f0.f1]] W fun e w' => ∃ z, e = .returned (.tuple #[.agg #[.int .i64 (rcS n).f0, .int .i64 (rcS n).f1, .int .i64 (rcS n).f2, .int .i64 (rcS n).f3], .int .i64 z]) ∧ Below W.heap.size W w') := ⟨fun W => by
    obtain ⟨z, hz⟩ := refOf_S n.f2.f0.f0 n.f2.f0.f1 n.f2.f0.f0 n.f2.f0.f1
    refine (foolscapref05_Of.calls _ _ _ _ _ _ _ _ _ W hz).mono ?_
    rintro e w' ⟨rfl, hb⟩
    refine ⟨z, ?_, hb⟩
    unfold rcS fR
    rw [if_neg (by omega)]⟩
   clear h2
   go_enter Tryz.func42, Tryz.ntmps42
   go_wp2_with (first
    | (go_at_call 61; (with_reducible refine (HO.out _).mono ?_); rintro e w1 ⟨z1, rfl, hb⟩; have HB1 := Aside0.mk (below_step (bel1 w _) hb); have B2 := Aside0.mk (blk_below B1.out hb); clear hb hb1)
    | ((with_reducible refine gate_store (t := 58) (p := 5) (v := .tmp 22) rfl ?_); refine wpRowSt rfl 58 (.tmp 5) (.tmp 22) rfl (w1.heap.size) (#[.int .i64 (rcS n).f0, .int .i64 (rcS n).f1, .int .i64 (rcS n).f2, .int .i64 (rcS n).f3]) rfl rfl 58 _ (newBlk w1 _) (by kernel_rfl) rfl rfl ?_; have F3 := Aside0.mk (setRow_heap _ _ _ (#[.int .i64 (rcS n).f0, .int .i64 (rcS n).f1, .int .i64 (rcS n).f2, .int .i64 (rcS n).f3]) _ _ (newBlk w1 (.cells #[.int .i64 0, .int .i64 0, .int .i64 0, .int .i64 0] 58))); have N3 := Aside0.mk (rowNew B2.out (.cells #[.int .i64 0, .int .i64 0, .int .i64 0, .int .i64 0] 58) (#[.int .i64 (rcS n).f0, .int .i64 (rcS n).f1, .int .i64 (rcS n).f2, .int .i64 (rcS n).f3])); have HB3 := Aside0.mk (rowBelow (below_alloc HB1.out (.cells #[.int .i64 0, .int .i64 0, .int .i64 0, .int .i64 0] 58)) HB1.out.size (#[.int .i64 (rcS n).f0, .int .i64 (rcS n).f1, .int .i64 (rcS n).f2, .int .i64 (rcS n).f3])); generalize ((w1.alloc (.cells #[.int .i64 0, .int .i64 0, .int .i64 0, .int .i64 0] 58)).setRow w1.heap.size (#[.int .i64 (rcS n).f0, .int .i64 (rcS n).f1, .int .i64 (rcS n).f2, .int .i64 (rcS n).f3])) = w3 at F3 N3 HB3 ⊢; have hf3 := fun i => blk_cell F3.out i; clear B2 HB1)
    | (go_at_call 62; (with_reducible refine (with_calls P u l (rcS n) w0 _ (by have := HL.out; omega) (HB0.out.trans (HB3.out.mono HB0.out.size)) (Kd.R_below HR0.out HB3.out)).mono ?_); rintro e w4 ⟨v4, rfl, hR, hb, hk⟩; have HR4 := Aside0.mk hR; have HB4 := Aside0.mk hb; have HK4 := Aside0.mk hk; have N4 := Aside0.mk (blk_kept N3.out hk (fun h => by have := HP.out _ h; omega)); have HS3 := Aside0.mk HB3.out.size; have HL3 := Aside0.mk (blk_lt N3.out); clear hR hb hk hf3))
   go_loopw [0, 9] (fun v i wr => ∃ (q : Nat), q ≤ n.f5.length ∧ i = .int .i64 q ∧ Aside0 (Kd.R k58 58 wr w0.heap.size (fun k => P k ∨ w.heap.size < k) v (foldR (addS l n) (preL (n.f5.take q)))) ∧ Aside0 (Below w0.heap.size w0 wr) ∧ Aside0 (Kept w wr P) ∧ Aside0 (wr.heap[w.heap.size]? = some (.cells (nodeA n A c) 44 (0, 0)))) (fun _ i _ => n.f5.length - (intOf i).toNat)
   case atStart => exact ⟨0, by omega, rfl, ⟨by rw [List.take_zero]; show Kd.R _ _ _ _ _ v4 (addS l n); rw [HAd.out]; exact Kd.R_mono HR4.out (fun k hk => hk.elim .inl (fun h => .inr (by have := HL3.out; omega)))⟩, HB4, ⟨Kept.then_ (Kept.of_below HB3.out P) HK4.out (fun _ h => .inl h)⟩, N4⟩
   case round =>
    clear HO HAd F3 N3 HB3 HR4 HB4 HK4 N4 HS3 HL3 HR0 B1
    obtain ⟨q, hk, rfl, HR, HB, HK, HBk⟩ := hrel
    have hc15 : wr.cell? ⟨w.heap.size, 15, none⟩ = some (.slice A n.f5.length c) := (blk_cell HBk.out 15).trans rfl
    by_cases hkl : q < n.f5.length
    ·obtain ⟨ad, A', c', e, hK', hCA0⟩ := kid_at HC.out q hkl
     have hCA := hCA0.below HB.out
     subst e
     have HCA := Aside0.mk hCA
     have hlen : (foldR (addS l n) (preL (n.f5.take q))).length + (preN n.f5[q]).length ≤ 10000 := by
      have h1 := foldR_length (preL (n.f5.take q)) (addS l n)
      have h2 := addS_length l n
      have h3 := HL.out
      rw [preN_eq, List.length_cons, preL_split n.f5 q hkl, List.length_append, List.length_append] at h3
      omega
     have HCk := Aside0.mk (HI.out n.f5[q] A' c' (fun k => P k ∨ w.heap.size < k) _ (foldR (addS l n) (preL (n.f5.take q))) wr (by have := kid_lt (List.getElem_mem hkl); have := HD.out; omega) hK' HB.out HR.out hlen)
     rw [← foldR_take _ n.f5 q hkl] at HCk
     clear hCA hCA0 hK' hlen
     go_wp2_with (first
      | ((with_reducible refine gate_dst (N := 54) rfl ?_); refine wpLdAt 54 rfl rfl 44 (.tmp 53) rfl (ad.add (q * 16)) rfl _ (nodeA n.f5[q] A' c') HCA.out Tryz.underlying44 rfl (by kernel_rfl) ?_)
      | (go_at_call 42; (with_reducible refine HCk.out.mono ?_); rintro e w1 ⟨v1, rfl, hR, hb, hk1⟩; have HR1 := Aside0.mk hR; have HB1 := Aside0.mk hb; have HK1 := Aside0.mk hk1; clear hR hb hk1))
     go_roundw
     case rel =>
      have hlw : w.heap.size < wr.heap.size := blk_lt HBk.out
      exact ⟨q + 1, by omega, by go_num, ⟨Kd.R_mono HR1.out (fun k hk => hk.elim id (fun h => .inr (by omega)))⟩, HB1, ⟨Kept.then_ HK.out HK1.out (fun k hk => hk.elim .inl (fun h => .inr (by omega)))⟩, ⟨blk_kept HBk.out HK1.out (fun h => h.elim (fun h => by have := HP.out _ h; omega) (fun h => by omega))⟩⟩
     case measure => simp [intOf]; omega
    ·obtain rfl : q = n.f5.length := by omega
     rw [List.take_length] at HR
     go_wp2
     go_ret
     exact ⟨_, rfl, Kd.R_mono HR.out (fun k hk => hk.elim .inl (fun h => .inr (by omega))), HB.out, HK.out⟩
  ·have h2b : (n.f0 == 2) = false := by simp [h2]
   by_cases h3 : n.f0 = 3
   ·have h3b : (n.f0 == 3) = true := by simp [h3]
    have HAd : Aside0 (addS l n = addR l (rcS n)) := ⟨by unfold addS addR; rw [if_pos (by unfold rgB; simp [h3])]⟩
    have HO : Aside0 (∀ W, Calls Tryz.prog 61 #[.agg #[.int .i64 n.f2.f0.f0, .int .i64 n.f2.f0.f1], .agg #[.int .i64 n.f3.f0.f0, .int .i64 n.f3.f0.f1]] W fun e w' => ∃ z, e = .returned (.tuple #[.agg #[.int .i64 (rcS n).f0, .int .i64 (rcS n).f1, .int .i64 (rcS n).f2, .int .i64 (rcS n).f3], .int .i64 z]) ∧ Below W.heap.size W w') := ⟨fun W => by
     obtain ⟨z, hz⟩ := refOf_S n.f2.f0.f0 n.f2.f0.f1 n.f3.f0.f0 n.f3.f0.f1
     refine (foolscapref05_Of.calls _ _ _ _ _ _ _ _ _ W hz).mono ?_
     rintro e w' ⟨rfl, hb⟩
     refine ⟨z, ?_, hb⟩
     unfold rcS fR
     rw [if_pos h3]⟩
    clear h2 h3
    go_enter Tryz.func42, Tryz.ntmps42
    go_wp2_with (first
    | (go_at_call 61; (with_reducible refine (HO.out _).mono ?_); rintro e w1 ⟨z1, rfl, hb⟩; have HB1 := Aside0.mk (below_step (bel1 w _) hb); have B2 := Aside0.mk (blk_below B1.out hb); clear hb hb1)
    | ((with_reducible refine gate_store (t := 58) (p := 7) (v := .tmp 37) rfl ?_); refine wpRowSt rfl 58 (.tmp 7) (.tmp 37) rfl (w1.heap.size) (#[.int .i64 (rcS n).f0, .int .i64 (rcS n).f1, .int .i64 (rcS n).f2, .int .i64 (rcS n).f3]) rfl rfl 58 _ (newBlk w1 _) (by kernel_rfl) rfl rfl ?_; have F3 := Aside0.mk (setRow_heap _ _ _ (#[.int .i64 (rcS n).f0, .int .i64 (rcS n).f1, .int .i64 (rcS n).f2, .int .i64 (rcS n).f3]) _ _ (newBlk w1 (.cells #[.int .i64 0, .int .i64 0, .int .i64 0, .int .i64 0] 58))); have N3 := Aside0.mk (rowNew B2.out (.cells #[.int .i64 0, .int .i64 0, .int .i64 0, .int .i64 0] 58) (#[.int .i64 (rcS n).f0, .int .i64 (rcS n).f1, .int .i64 (rcS n).f2, .int .i64 (rcS n).f3])); have HB3 := Aside0.mk (rowBelow (below_alloc HB1.out (.cells #[.int .i64 0, .int .i64 0, .int .i64 0, .int .i64 0] 58)) HB1.out.size (#[.int .i64 (rcS n).f0, .int .i64 (rcS n).f1, .int .i64 (rcS n).f2, .int .i64 (rcS n).f3])); generalize ((w1.alloc (.cells #[.int .i64 0, .int .i64 0, .int .i64 0, .int .i64 0] 58)).setRow w1.heap.size (#[.int .i64 (rcS n).f0, .int .i64 (rcS n).f1, .int .i64 (rcS n).f2, .int .i64 (rcS n).f3])) = w3 at F3 N3 HB3 ⊢; have hf3 := fun i => blk_cell F3.out i; clear B2 HB1)
    | (go_at_call 62; (with_reducible refine (with_calls P u l (rcS n) w0 _ (by have := HL.out; omega) (HB0.out.trans (HB3.out.mono HB0.out.size)) (Kd.R_below HR0.out HB3.out)).mono ?_); rintro e w4 ⟨v4, rfl, hR, hb, hk⟩; have HR4 := Aside0.mk hR; have HB4 := Aside0.mk hb; have HK4 := Aside0.mk hk; have N4 := Aside0.mk (blk_kept N3.out hk (fun h => by have := HP.out _ h; omega)); have HS3 := Aside0.mk HB3.out.size; have HL3 := Aside0.mk (blk_lt N3.out); clear hR hb hk hf3))
    go_loopw [0, 9] (fun v i wr => ∃ (q : Nat), q ≤ n.f5.length ∧ i = .int .i64 q ∧ Aside0 (Kd.R k58 58 wr w0.heap.size (fun k => P k ∨ w.heap.size < k) v (foldR (addS l n) (preL (n.f5.take q)))) ∧ Aside0 (Below w0.heap.size w0 wr) ∧ Aside0 (Kept w wr P) ∧ Aside0 (wr.heap[w.heap.size]? = some (.cells (nodeA n A c) 44 (0, 0)))) (fun _ i _ => n.f5.length - (intOf i).toNat)
    case atStart => exact ⟨0, by omega, rfl, ⟨by rw [List.take_zero]; show Kd.R _ _ _ _ _ v4 (addS l n); rw [HAd.out]; exact Kd.R_mono HR4.out (fun k hk => hk.elim .inl (fun h => .inr (by have := HL3.out; omega)))⟩, HB4, ⟨Kept.then_ (Kept.of_below HB3.out P) HK4.out (fun _ h => .inl h)⟩, N4⟩
    case round =>
     clear HO HAd F3 N3 HB3 HR4 HB4 HK4 N4 HS3 HL3 HR0 B1
     obtain ⟨q, hk, rfl, HR, HB, HK, HBk⟩ := hrel
     have hc15 : wr.cell? ⟨w.heap.size, 15, none⟩ = some (.slice A n.f5.length c) := (blk_cell HBk.out 15).trans rfl
     by_cases hkl : q < n.f5.length
     ·obtain ⟨ad, A', c', e, hK', hCA0⟩ := kid_at HC.out q hkl
      have hCA := hCA0.below HB.out
      subst e
      have HCA := Aside0.mk hCA
      have hlen : (foldR (addS l n) (preL (n.f5.take q))).length + (preN n.f5[q]).length ≤ 10000 := by
       have h1 := foldR_length (preL (n.f5.take q)) (addS l n)
       have h2 := addS_length l n
       have h3 := HL.out
       rw [preN_eq, List.length_cons, preL_split n.f5 q hkl, List.length_append, List.length_append] at h3
       omega
      have HCk := Aside0.mk (HI.out n.f5[q] A' c' (fun k => P k ∨ w.heap.size < k) _ (foldR (addS l n) (preL (n.f5.take q))) wr (by have := kid_lt (List.getElem_mem hkl); have := HD.out; omega) hK' HB.out HR.out hlen)
      rw [← foldR_take _ n.f5 q hkl] at HCk
      clear hCA hCA0 hK' hlen
      go_wp2_with (first
       | ((with_reducible refine gate_dst (N := 54) rfl ?_); refine wpLdAt 54 rfl rfl 44 (.tmp 53) rfl (ad.add (q * 16)) rfl _ (nodeA n.f5[q] A' c') HCA.out Tryz.underlying44 rfl (by kernel_rfl) ?_)
       | (go_at_call 42; (with_reducible refine HCk.out.mono ?_); rintro e w1 ⟨v1, rfl, hR, hb, hk1⟩; have HR1 := Aside0.mk hR; have HB1 := Aside0.mk hb; have HK1 := Aside0.mk hk1; clear hR hb hk1))
      go_roundw
      case rel =>
       have hlw : w.heap.size < wr.heap.size := blk_lt HBk.out
       exact ⟨q + 1, by omega, by go_num, ⟨Kd.R_mono HR1.out (fun k hk => hk.elim id (fun h => .inr (by omega)))⟩, HB1, ⟨Kept.then_ HK.out HK1.out (fun k hk => hk.elim .inl (fun h => .inr (by omega)))⟩, ⟨blk_kept HBk.out HK1.out (fun h => h.elim (fun h => by have := HP.out _ h; omega) (fun h => by omega))⟩⟩
      case measure => simp [intOf]; omega
     ·obtain rfl : q = n.f5.length := by omega
      rw [List.take_length] at HR
      go_wp2
      go_ret
      exact ⟨_, rfl, Kd.R_mono HR.out (fun k hk => hk.elim .inl (fun h => .inr (by omega))), HB.out, HK.out⟩
   ·have h3b : (n.f0 == 3) = false := by simp [h3]
    have HAd : Aside0 (addS l n = l) := ⟨by unfold addS; rw [if_neg (by unfold rgB; simp [h2, h3])]⟩
    clear h2 h3
    go_enter Tryz.func42, Tryz.ntmps42
    go_wp2
    go_loopw [0, 9] (fun v i wr => ∃ (q : Nat), q ≤ n.f5.length ∧ i = .int .i64 q ∧ Aside0 (Kd.R k58 58 wr w0.heap.size (fun k => P k ∨ w.heap.size < k) v (foldR (addS l n) (preL (n.f5.take q)))) ∧ Aside0 (Below w0.heap.size w0 wr) ∧ Aside0 (Kept w wr P) ∧ Aside0 (wr.heap[w.heap.size]? = some (.cells (nodeA n A c) 44 (0, 0)))) (fun _ i _ => n.f5.length - (intOf i).toNat)
    case atStart => exact ⟨0, by omega, rfl, ⟨by rw [List.take_zero]; show Kd.R _ _ _ _ _ u (addS l n); rw [HAd.out]; exact Kd.R_mono (Kd.R_alloc HR0.out _) (fun k hk => .inl hk)⟩, ⟨HB0.out.trans ((bel1 w _).mono HB0.out.size)⟩, ⟨Kept.of_below (bel1 w _) P⟩, B1⟩
    case round =>
     clear HAd HR0 B1 hb1
     obtain ⟨q, hk, rfl, HR, HB, HK, HBk⟩ := hrel
     have hc15 : wr.cell? ⟨w.heap.size, 15, none⟩ = some (.slice A n.f5.length c) := (blk_cell HBk.out 15).trans rfl
     by_cases hkl : q < n.f5.length
     ·obtain ⟨ad, A', c', e, hK', hCA0⟩ := kid_at HC.out q hkl
      have hCA := hCA0.below HB.out
      subst e
      have HCA := Aside0.mk hCA
      have hlen : (foldR (addS l n) (preL (n.f5.take q))).length + (preN n.f5[q]).length ≤ 10000 := by
       have h1 := foldR_length (preL (n.f5.take q)) (addS l n)
       have h2 := addS_length l n
       have h3 := HL.out
       rw [preN_eq, List.length_cons, preL_split n.f5 q hkl, List.length_append, List.length_append] at h3
       omega
      have HCk := Aside0.mk (HI.out n.f5[q] A' c' (fun k => P k ∨ w.heap.size < k) _ (foldR (addS l n) (preL (n.f5.take q))) wr (by have := kid_lt (List.getElem_mem hkl); have := HD.out; omega) hK' HB.out HR.out hlen)
      rw [← foldR_take _ n.f5 q hkl] at HCk
      clear hCA hCA0 hK' hlen
      go_wp2_with (first
       | ((with_reducible refine gate_dst (N := 54) rfl ?_); refine wpLdAt 54 rfl rfl 44 (.tmp 53) rfl (ad.add (q * 16)) rfl _ (nodeA n.f5[q] A' c') HCA.out Tryz.underlying44 rfl (by kernel_rfl) ?_)
       | (go_at_call 42; (with_reducible refine HCk.out.mono ?_); rintro e w1 ⟨v1, rfl, hR, hb, hk1⟩; have HR1 := Aside0.mk hR; have HB1 := Aside0.mk hb; have HK1 := Aside0.mk hk1; clear hR hb hk1))
      go_roundw
      case rel =>
       have hlw : w.heap.size < wr.heap.size := blk_lt HBk.out
       exact ⟨q + 1, by omega, by go_num, ⟨Kd.R_mono HR1.out (fun k hk => hk.elim id (fun h => .inr (by omega)))⟩, HB1, ⟨Kept.then_ HK.out HK1.out (fun k hk => hk.elim .inl (fun h => .inr (by omega)))⟩, ⟨blk_kept HBk.out HK1.out (fun h => h.elim (fun h => by have := HP.out _ h; omega) (fun h => by omega))⟩⟩
      case measure => simp [intOf]; omega
     ·obtain rfl : q = n.f5.length := by omega
      rw [List.take_length] at HR
      go_wp2
      go_ret
      exact ⟨_, rfl, Kd.R_mono HR.out (fun k hk => hk.elim .inl (fun h => .inr (by omega))), HB.out, HK.out⟩
end Go.Proofs.YtopdjokncbpghaaGreatDoor.Pr
end
