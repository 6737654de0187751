/-
  What the law RewriteMoves leans on, out of the texts that were printed and written for this seat: only what its proof mentions (gathered by a program of the author's).
-/
import Derived.Test.YthnldbclbfpojaaGreatDoorSRewriteMoves33
import Derived.Test.YthnldbclbfpojaaGreatDoorSRewriteMoves37
import Derived.Test.YthnldbclbfpojaaGreatDoorSRewriteMoves41
import Derived.Test.YthnldbclbfpojaaGreatDoorSRewriteMoves21
import Derived.Test.YthnldbclbfpojaaGreatDoorSRewriteMoves28
import Derived.Test.YthnldbclbfpojaaGreatDoorSRewriteMoves32
import Derived.Test.YthnldbclbfpojaaGreatDoorSRewriteMoves23
import Derived.Test.YthnldbclbfpojaaGreatDoorSRewriteMoves31
import Derived.Test.YthnldbclbfpojaaGreatDoorSRewriteMoves38
set_option maxHeartbeats 8000000
set_option maxRecDepth 100000
set_option linter.unusedVariables false
set_option linter.unusedSimpArgs false
section
namespace Go.Proofs.YthnldbclbfpojaaGreatDoor.Pr
open Go.RowKit Go.Proofs.YthnldbclbfpojaaGreatDoorW.PrintWords Go.Proofs.YthnldbclbfpojaaGreatDoorW.PrintLast Go.Proofs.YthnldbclbfpojaaGreatDoorW.PrintMore
def rwMove.T7 : Bool × List (List Nat × List Nat) := (true, [([], []), ([0], [0]), ([], []), ([1, 2, 1], [1, 2]), ([3, 3, 0, 1, 2, 3], [3]), ([4, 0, 1, 2, 3, 4], [])])
def rwMove.B7 : List Nat := [0, 1, 0, 7, 15, 31]
theorem rwMove.tab7 : rtab .any (opsOf Tryz.f17 7) = rwMove.T7 := by kernel_rfl
theorem rwMove.bits7 : waitsOk rwMove.T7.2 rwMove.B7 = true := by kernel_rfl
def moveS (a b d : Int) (n : Nd) : Nd := wayS (way1 (movC a b d) (movB a b d)) (way2 (movX a b d) (movY a b d) (fun p q => (movR a b d p q).2.1)) n
def moveN (a b d : Int) (n : Nd) : Nd := if checkI n = 0 then (if edB a b d = true then moveS a b d n else zeroN) else zeroN
def moveE (a b d : Int) (n : Nd) : Int := if checkI n = 0 then (if edB a b d = true then 0 else 2) else checkI n
theorem move_no (a b d : Int) (n : Nd) (A : Option Addr) (c : Nat) (q : Int) (w : World) (hq : ¬q = 0) (HCk : Aside0 (∀ W, Below w.heap.size w W → Calls Tryz.prog 30 #[nodeV n A c] W fun e w' => e = .returned (.int .i64 q) ∧ Below W.heap.size W w')) :
  Calls Tryz.prog 17 #[nodeV n A c, .agg (edA a b d)] w (NodeIntOut zeroN q w) := by
 go_enter Tryz.func17, Tryz.ntmps17
 go_wp2_with (first
  | (go_at_call 30; (with_reducible refine (HCk.out _ (bel3 w _ _ _)).mono ?_); rintro e w1 ⟨rfl, hb⟩; have HB1 := Aside0.mk (below_step (bel3 w _ _ _) hb); have D6 := Aside0.mk (blk_below (newBlk3c w _ _ _) hb); clear hb)
  | ((with_reducible refine gate_store (t := 33) (p := 4) (v := .tmp 12) rfl ?_); refine wpRowSt rfl 33 (.tmp 4) (.tmp 12) rfl (w.heap.size + 2) (nodeA zeroN none 0) rfl rfl 33 _ D6.out (by kernel_rfl) rfl rfl ?_))
 refine bodyPost_ret (results_ct rfl _ _ (w.heap.size + 2) 33 (nodeA zeroN none 0) (0, 0) _ rfl (setRow_heap _ _ _ _ _ _ D6.out) Tryz.underlying33 rfl (by kernel_rfl)) rfl ?_
 exact ⟨none, 0, rfl, kidsF_nil _ _ _ _, rowBelow HB1.out (by omega) _⟩
theorem move_bad (a b d : Int) (n : Nd) (A : Option Addr) (c : Nat) (w : World) (HC : Aside0 (move_Check.f a b d = some 2)) (HCk : Aside0 (∀ W, Below w.heap.size w W → Calls Tryz.prog 30 #[nodeV n A c] W fun e w' => e = .returned (.int .i64 0) ∧ Below W.heap.size W w')) :
  Calls Tryz.prog 17 #[nodeV n A c, .agg (edA a b d)] w (NodeIntOut zeroN 2 w) := by
 go_enter Tryz.func17, Tryz.ntmps17
 go_wp2_with (first
  | (go_at_call 30; (with_reducible refine (HCk.out _ (bel3 w _ _ _)).mono ?_); rintro e w1 ⟨rfl, hb⟩; have HB1 := Aside0.mk (below_step (bel3 w _ _ _) hb); have D4 := Aside0.mk (blk_below (newBlk3b w _ _ _) hb); have D6 := Aside0.mk (blk_below (newBlk3c w _ _ _) hb); clear hb; have hc := fun i => blk_cell D4.out i)
  | (go_at_call 37; (with_reducible refine (move_Check.calls _ _ _ _ _ HC.out).mono ?_); rintro e w2 ⟨rfl, hb⟩; have HB2 := Aside0.mk (below_step HB1.out hb); have E6 := Aside0.mk (blk_below D6.out hb); clear hb hc)
  | ((with_reducible refine gate_store (t := 33) (p := 4) (v := .tmp 18) rfl ?_); refine wpRowSt rfl 33 (.tmp 4) (.tmp 18) rfl (w.heap.size + 2) (nodeA zeroN none 0) rfl rfl 33 _ E6.out (by kernel_rfl) rfl rfl ?_))
 refine bodyPost_ret (results_ct rfl _ _ (w.heap.size + 2) 33 (nodeA zeroN none 0) (0, 0) _ rfl (setRow_heap _ _ _ _ _ _ E6.out) Tryz.underlying33 rfl (by kernel_rfl)) rfl ?_
 exact ⟨none, 0, rfl, kidsF_nil _ _ _ _, rowBelow HB2.out (by omega) _⟩
theorem move_yes (a b d : Int) (n : Nd) (A : Option Addr) (c : Nat) (w : World) (HC : Aside0 (move_Check.f a b d = some 0)) (HCk : Aside0 (∀ W, Below w.heap.size w W → Calls Tryz.prog 30 #[nodeV n A c] W fun e w' => e = .returned (.int .i64 0) ∧ Below W.heap.size W w'))
  (HW : Aside0 (∀ W0 W : World, Below w.heap.size w W0 → W.heap[W0.heap.size]? = some (.cells (edA a b d) 47 (0, 0)) → Below W0.heap.size W0 W → Calls Tryz.prog 33 #[wayV2 (ptrV W0.heap.size), nodeV n A c] W (NodeOut (moveS a b d n) W))) :
  Calls Tryz.prog 17 #[nodeV n A c, .agg (edA a b d)] w (NodeIntOut (moveS a b d n) 0 w) := by
 go_enter Tryz.func17, Tryz.ntmps17
 go_wp2_with (first
  | (go_at_call 30; (with_reducible refine (HCk.out _ (bel3 w _ _ _)).mono ?_); rintro e w1 ⟨rfl, hb⟩; have HB1 := Aside0.mk (below_step (bel3 w _ _ _) hb); have D3 := Aside0.mk (blk_below (newBlk3a w _ _ _) hb); have D4 := Aside0.mk (blk_below (newBlk3b w _ _ _) hb); have D6 := Aside0.mk (blk_below (newBlk3c w _ _ _) hb); clear hb; have hc := fun i => blk_cell D4.out i)
  | (go_at_call 37; (with_reducible refine (move_Check.calls _ _ _ _ _ HC.out).mono ?_); rintro e w2 ⟨rfl, hb⟩; have HB2 := Aside0.mk (below_step HB1.out hb); have E3 := Aside0.mk (blk_below D3.out hb); have E4 := Aside0.mk (blk_below D4.out hb); have E6 := Aside0.mk (blk_below D6.out hb); clear hb hc))
 refine start_ (n := 6) (S := (fun w' => w'.heap[w.heap.size]? = some (.cells (nodeA n A c) 33 (0, 0)) ∧ w'.heap[w.heap.size + 1]? = some (.cells (edA a b d) 47 (0, 0)))) (ds := []) (Array.replicate 6 false) (by kernel_rfl) rfl rfl ⟨blk_drew E3.out, blk_drew E4.out⟩ (fun hHeld => ?_)
 refine with_tabW rwMove.tab7 rwMove.bits7 (fun HT_ HW_ => ?_)
 refine tz 0 20 HT_ HW_ (hr := (by rintro w' s0; have q1 := fun i => blk_cell s0.1 i; have q2 := fun i => blk_cell s0.2 i; go_simp; with_reducible rfl)) (hS := hHeld) (h := ?_)
 refine tz 2 22 HT_ HW_ (hr := (by rintro w' s0; have q1 := fun i => blk_cell s0.1 i; have q2 := fun i => blk_cell s0.2 i; go_simp; with_reducible rfl)) (hS := hHeld) (h := ?_)
 refine oneI 1 (some 21) HT_ rfl rfl (by kernel_rfl) (by decide) (fun K hK => ?_)
 refine goes_ Tryz.func38 (by kernel_rfl) rfl #[.agg (edA a b d)] (by (try simp only [List.map_toArray, List.map_cons, List.map_nil]); first | done | rfl) rfl rfl (by first | rfl | ((try simp only [List.map_toArray, List.map_cons, List.map_nil]); first | done | rfl)) ?_
 with_reducible refine (moving_calls a b d _).mono ?_
 rintro e w4 ⟨rfl, hP, hb⟩
 refine ⟨_, rfl, ?_⟩
 have HW4 := Aside0.mk (HW.out _ w4 (below_drew1 HB2.out) hP hb)
 have HB4 := Aside0.mk (below_step (below_drew1 HB2.out) hb)
 have F6 := Aside0.mk (blk_below (blk_drew E6.out) hb)
 refine hK.out _ _ ⟨blk_below hHeld.1 hb, blk_below hHeld.2 hb⟩ (fun hHeld => ?_)
 clear hK K
 refine nz 21 ?_
 refine oneI 3 (some 23) HT_ rfl rfl (by kernel_rfl) (by decide) (fun K hK => ?_)
 refine goes_ Tryz.func33 (by kernel_rfl) rfl #[wayV2 (ptrV w2.drew.heap.size), nodeV n A c] (by (try simp only [List.map_toArray, List.map_cons, List.map_nil]); first | done | rfl) rfl rfl (by first | rfl | ((try simp only [List.map_toArray, List.map_cons, List.map_nil]); first | done | rfl)) ?_
 with_reducible refine (HW4.out).mono ?_
 rintro e w5 ⟨A2, c2, rfl, hFF, hb⟩
 refine ⟨_, rfl, ?_⟩
 have HFF := Aside0.mk hFF
 have HB5 := Aside0.mk (below_step HB4.out hb)
 have G6 := Aside0.mk (blk_below F6.out hb)
 refine hK.out _ _ ⟨blk_below hHeld.1 hb, blk_below hHeld.2 hb⟩ (fun hHeld => ?_)
 clear hK K
 refine nz 23 ?_
 refine oneI 4 none HT_ rfl rfl (by kernel_rfl) (by decide) (fun K hK => ?_)
 refine skip_ (by rfl) rfl (rowSkip (ty := 33) (x := .tmp 4) (y := .tmp 23) (g := w.heap.size + 2) (cs := nodeA (moveS a b d n) A2 c2) rfl rfl rfl G6.out (by kernel_rfl) rfl rfl) ?_
 refine hK.out _ _ ⟨rowOther _ hHeld.1 (by omega), rowOther _ hHeld.2 (by omega)⟩ (fun hHeld => ?_)
 clear hK K
 -- norm_
 refine pz 5 5 HT_ ?_
 refine done_ (done_of HT_.out (by kernel_rfl)) ?_
 go_wp2
 refine bodyPost_ret (results_ct rfl _ _ (w.heap.size + 2) 33 (nodeA (moveS a b d n) A2 c2) (0, 0) _ rfl (setRow_heap _ _ _ _ _ _ G6.out) Tryz.underlying33 rfl (by kernel_rfl)) rfl ?_
 exact ⟨A2, c2, rfl, ⟨HFF.out.1, Kd.F_mono (Kd.F_step HFF.out.2 (fun z hz _ => setRow_other _ _ z _ (by have := blk_lt F6.out; omega))) (fun z hz => by have := HB4.out.size; omega)⟩, rowBelow HB5.out (by omega) _⟩
theorem move_calls (a b d : Int) (n : Nd) (A : Option Addr) (c : Nat) (w : World) (hK : KidsC w A c n.f5) (hL0 : Aside0 (LaidW w)) :
  Calls Tryz.prog 17 #[nodeV n A c, .agg (edA a b d)] w (NodeIntOut (moveN a b d n) (moveE a b d n) w) := by
 have HCk := Aside0.mk fun (W : World) (h : Below w.heap.size w W) => treeCheck_calls n A c W (hK.below h) (LaidAt hL0 h)
 have hc := moveCheck_B a b d
 unfold moveN moveE
 by_cases hq : checkI n = 0
 ·rw [if_pos hq, if_pos hq]
  rw [hq] at HCk
  cases he : edB a b d with
  | true =>
   rw [he, if_pos rfl] at hc
   rw [if_pos rfl, if_pos rfl]
   refine move_yes a b d n A c w ⟨hc⟩ HCk ⟨fun W0 W h0 hP hb => ?_⟩
   exact node2_calls (ptrV W0.heap.size) (movC a b d) (movB a b d) (movX a b d) (movY a b d) (fun p q => (movR a b d p q).2.1) (szN n + 1) n A c W (Nat.lt_succ_self _) ((hK.below h0).below hb) (leaf_of_check hq)
    (fun x W1 h1 => moving1_calls a b d x _ W1 (blk_below hP h1))
    (fun x y W1 h1 => moving2_calls a b d x y _ W1 (blk_below hP h1))
  | false =>
   rw [he, if_neg (by simp)] at hc
   rw [if_neg (by simp), if_neg (by simp)]
   exact move_bad a b d n A c w ⟨hc⟩ HCk
 ·rw [if_neg hq, if_neg hq]
  exact move_no a b d n A c _ w hq HCk
def parseN (s : ByteArray) : Option Nd :=
 (foolscapref07_Scan.f 200 s).bind fun p => if p.2.2 = 0 then (readS 100 p.1 0 0).bind fun r => if r.bad = false then (tokS p.1 r.i).bind fun t => if t.f0 = 0 ∧ ¬depthI r.n = 0 ∧ ¬depthI r.n > 40 then some r.n else none else none else none
def textN (n : Nd) : Option ByteArray :=
 if checkI n = 0 ∧ longS n ≤ 2048 then (textS 10 n).bind fun s => if (s.size : Int) ≤ 1023 then some s else none else none
def exA : ByteArray := ⟨#[65, 51, 43, 83, 85, 77, 40, 66, 50, 58, 66, 53, 41]⟩
def exC : ByteArray := ⟨#[65, 49, 43, 36, 65, 36, 49, 43, 65, 36, 49]⟩
def sameT (x : Option ByteArray) (l : List UInt8) : Bool := match x with | some s => s.data.toList == l | none => false
def livesA : Bool := match parseN exA with
 | some n => moveE 1 3 1 n == 0 && moveE 2 3 1 n == 0 && sameT (textN (moveN 1 3 1 n)) [65, 52, 43, 83, 85, 77, 40, 66, 50, 58, 66, 54, 41] && sameT (textN (moveN 2 3 1 n)) [35, 82, 69, 70, 33, 43, 83, 85, 77, 40, 66, 50, 58, 66, 52, 41]
 | none => false
def livesC : Bool := match parseN exC with
 | some n => shiftE 1 1 n == 0 && shiftE (-1) 0 n == 0 && sameT (textN (shiftN 1 1 n)) [66, 50, 43, 36, 65, 36, 49, 43, 66, 36, 49] && sameT (textN (shiftN (-1) 0 n)) [35, 82, 69, 70, 33, 43, 36, 65, 36, 49, 43, 65, 36, 49]
 | none => false
theorem livesA_ok : livesA = true := by decide +kernel
theorem livesC_ok : livesC = true := by decide +kernel
def Held (W : World) (g : Nat) (m : Nd) (A : Option Addr) (c : Nat) : Prop := W.heap[g]? = some (.cells (nodeA m A c) 33 (0, 0)) ∧ KidsP W (fun k => k < g) A c m.f5
theorem Held.below {W W' : World} {g : Nat} {m : Nd} {A : Option Addr} {c : Nat} (h : Held W g m A c) (hb : Below W.heap.size W W') : Held W' g m A c := ⟨blk_below h.1 hb, KidsP.below h.2 hb⟩
theorem Held.now {W : World} {g : Nat} {m : Nd} {A : Option Addr} {c : Nat} (h : Held W g m A c) : KidsC W A c m.f5 := ⟨h.2.1, Kd.F_now h.2.2⟩
theorem Held.store {W : World} {g : Nat} {m : Nd} {A : Option Addr} {c : Nat} (h : Held W g m A c) (cs : Array Value) (o : Obj) : Held ((W.alloc o).setRow W.heap.size cs) g m A c := by
 have hlt := blk_lt h.1
 exact ⟨rowOther _ (blk_alloc h.1 _) (by omega), KidsP.row (KidsP.below h.2 (bel1 W _)) _ _ (fun k hk => by omega)⟩
theorem heldNew {W : World} {b : Nat} {m : Nd} {A : Option Addr} {c : Nat} (h : KidsF W b A c m.f5) : Held ((W.alloc (.cells Z16 33)).setRow W.heap.size (nodeA m A c)) W.heap.size m A c :=
 ⟨setRow_heap _ _ _ _ _ _ (newBlk W _), KidsP.row (KidsP.below (KidsP.mono (KidsP.bnd h) (Q := fun k => k < W.heap.size) (fun k hk => hk.2)) (bel1 W _)) _ _ (fun k hk => by omega)⟩
theorem lives_walk (a c m0 m1 m2 m3 : Nd) (w : World) (HOa : Aside0 (∀ W, Calls Tryz.prog 28 #[.string (⟨#[65, 51, 43, 83, 85, 77, 40, 66, 50, 58, 66, 53, 41]⟩ : ByteArray)] W (NodeOut a W))) (HOc : Aside0 (∀ W, Calls Tryz.prog 28 #[.string (⟨#[65, 49, 43, 36, 65, 36, 49, 43, 65, 36, 49]⟩ : ByteArray)] W (NodeOut c W)))
  (HM0 : Aside0 (∀ W A_ c_, Below w.heap.size w W → KidsC W A_ c_ a.f5 → Calls Tryz.prog 17 #[nodeV a A_ c_, .agg (edA 1 3 1)] W (NodeIntOut m0 0 W)))
  (HM1 : Aside0 (∀ W A_ c_, Below w.heap.size w W → KidsC W A_ c_ a.f5 → Calls Tryz.prog 17 #[nodeV a A_ c_, .agg (edA 2 3 1)] W (NodeIntOut m1 0 W)))
  (HM2 : Aside0 (∀ W A_ c_, Below w.heap.size w W → KidsC W A_ c_ c.f5 → Calls Tryz.prog 12 #[nodeV c A_ c_, .int .i64 1, .int .i64 1] W (NodeIntOut m2 0 W)))
  (HM3 : Aside0 (∀ W A_ c_, Below w.heap.size w W → KidsC W A_ c_ c.f5 → Calls Tryz.prog 12 #[nodeV c A_ c_, .int .i64 (-1), .int .i64 0] W (NodeIntOut m3 0 W)))
  (HT0 : Aside0 (∀ W A_ c_, KidsC W A_ c_ m0.f5 → Calls Tryz.prog 29 #[nodeV m0 A_ c_] W (TextOut (⟨#[65, 52, 43, 83, 85, 77, 40, 66, 50, 58, 66, 54, 41]⟩ : ByteArray) W)))
  (HT1 : Aside0 (∀ W A_ c_, KidsC W A_ c_ m1.f5 → Calls Tryz.prog 29 #[nodeV m1 A_ c_] W (TextOut (⟨#[35, 82, 69, 70, 33, 43, 83, 85, 77, 40, 66, 50, 58, 66, 52, 41]⟩ : ByteArray) W)))
  (HT2 : Aside0 (∀ W A_ c_, KidsC W A_ c_ m2.f5 → Calls Tryz.prog 29 #[nodeV m2 A_ c_] W (TextOut (⟨#[66, 50, 43, 36, 65, 36, 49, 43, 66, 36, 49]⟩ : ByteArray) W)))
  (HT3 : Aside0 (∀ W A_ c_, KidsC W A_ c_ m3.f5 → Calls Tryz.prog 29 #[nodeV m3 A_ c_] W (TextOut (⟨#[35, 82, 69, 70, 33, 43, 36, 65, 36, 49, 43, 65, 36, 49]⟩ : ByteArray) W))) :
  Calls Tryz.prog 10 #[] w fun e w' => e = .returned (.bool true) ∧ Below w.heap.size w w' := by
 have HB0 := Aside0.mk (Below.refl w.heap.size w)
 go_enter Tryz.func10, Tryz.ntmps10
 go_wp2_with (first
  | (go_at_call 28; (with_reducible refine (HOa.out _).mono ?_); rintro e o0 ⟨D0, d0, rfl, hF, hb⟩; have HB1 := Aside0.mk (below_step HB0.out hb); have G0 := Aside0.mk hF.now; skip; clear hF hb HB0 )
  | (go_at_call 17; (with_reducible refine (HM0.out _ _ _ HB1.out G0.out).mono ?_); rintro e v0 ⟨A0, c0, rfl, hF, hb⟩; have HB2 := Aside0.mk (below_step HB1.out hb); have N0 := Aside0.mk (heldNew hF); skip; clear hF hb HB1 G0 )
  | ((with_reducible refine gate_store (t := 33) (p := 1) (v := .tmp 13) rfl ?_); refine wpRowSt rfl 33 (.tmp 1) (.tmp 13) rfl (v0.heap.size) (nodeA m0 A0 c0) rfl rfl 33 _ (newBlk v0 _) (by kernel_rfl) rfl rfl ?_; have F0_3 := Aside0.mk N0.out; have HB3 := Aside0.mk (rowBelow (below_alloc HB2.out (.cells Z16 33)) HB2.out.size (nodeA m0 A0 c0)); skip; clear HB2 N0 )
  | (go_at_call 28; (with_reducible refine (HOa.out _).mono ?_); rintro e o1 ⟨D1, d1, rfl, hF, hb⟩; have HB4 := Aside0.mk (below_step HB3.out hb); have G1 := Aside0.mk hF.now; have F0_4 := Aside0.mk (F0_3.out.below hb); clear hF hb HB3 F0_3)
  | (go_at_call 17; (with_reducible refine (HM1.out _ _ _ HB4.out G1.out).mono ?_); rintro e v1 ⟨A1, c1, rfl, hF, hb⟩; have HB5 := Aside0.mk (below_step HB4.out hb); have N1 := Aside0.mk (heldNew hF); have F0_5 := Aside0.mk (F0_4.out.below hb); clear hF hb HB4 G1 F0_4)
  | ((with_reducible refine gate_store (t := 33) (p := 3) (v := .tmp 19) rfl ?_); refine wpRowSt rfl 33 (.tmp 3) (.tmp 19) rfl (v1.heap.size) (nodeA m1 A1 c1) rfl rfl 33 _ (newBlk v1 _) (by kernel_rfl) rfl rfl ?_; have F1_6 := Aside0.mk N1.out; have HB6 := Aside0.mk (rowBelow (below_alloc HB5.out (.cells Z16 33)) HB5.out.size (nodeA m1 A1 c1)); have F0_6 := Aside0.mk (F0_5.out.store (nodeA m1 A1 c1) (.cells Z16 33)); clear HB5 N1 F0_5)
  | (go_at_call 28; (with_reducible refine (HOc.out _).mono ?_); rintro e o2 ⟨D2, d2, rfl, hF, hb⟩; have HB7 := Aside0.mk (below_step HB6.out hb); have G2 := Aside0.mk hF.now; have F0_7 := Aside0.mk (F0_6.out.below hb); have F1_7 := Aside0.mk (F1_6.out.below hb); clear hF hb HB6 F0_6 F1_6)
  | (go_at_call 12; (with_reducible refine (HM2.out _ _ _ HB7.out G2.out).mono ?_); rintro e v2 ⟨A2, c2, rfl, hF, hb⟩; have HB8 := Aside0.mk (below_step HB7.out hb); have N2 := Aside0.mk (heldNew hF); have F0_8 := Aside0.mk (F0_7.out.below hb); have F1_8 := Aside0.mk (F1_7.out.below hb); clear hF hb HB7 G2 F0_7 F1_7)
  | ((with_reducible refine gate_store (t := 33) (p := 5) (v := .tmp 24) rfl ?_); refine wpRowSt rfl 33 (.tmp 5) (.tmp 24) rfl (v2.heap.size) (nodeA m2 A2 c2) rfl rfl 33 _ (newBlk v2 _) (by kernel_rfl) rfl rfl ?_; have F2_9 := Aside0.mk N2.out; have HB9 := Aside0.mk (rowBelow (below_alloc HB8.out (.cells Z16 33)) HB8.out.size (nodeA m2 A2 c2)); have F0_9 := Aside0.mk (F0_8.out.store (nodeA m2 A2 c2) (.cells Z16 33)); have F1_9 := Aside0.mk (F1_8.out.store (nodeA m2 A2 c2) (.cells Z16 33)); clear HB8 N2 F0_8 F1_8)
  | (go_at_call 28; (with_reducible refine (HOc.out _).mono ?_); rintro e o3 ⟨D3, d3, rfl, hF, hb⟩; have HB10 := Aside0.mk (below_step HB9.out hb); have G3 := Aside0.mk hF.now; have F0_10 := Aside0.mk (F0_9.out.below hb); have F1_10 := Aside0.mk (F1_9.out.below hb); have F2_10 := Aside0.mk (F2_9.out.below hb); clear hF hb HB9 F0_9 F1_9 F2_9)
  | (go_at_call 12; (with_reducible refine (HM3.out _ _ _ HB10.out G3.out).mono ?_); rintro e v3 ⟨A3, c3, rfl, hF, hb⟩; have HB11 := Aside0.mk (below_step HB10.out hb); have N3 := Aside0.mk (heldNew hF); have F0_11 := Aside0.mk (F0_10.out.below hb); have F1_11 := Aside0.mk (F1_10.out.below hb); have F2_11 := Aside0.mk (F2_10.out.below hb); clear hF hb HB10 G3 F0_10 F1_10 F2_10)
  | ((with_reducible refine gate_store (t := 33) (p := 7) (v := .tmp 29) rfl ?_); refine wpRowSt rfl 33 (.tmp 7) (.tmp 29) rfl (v3.heap.size) (nodeA m3 A3 c3) rfl rfl 33 _ (newBlk v3 _) (by kernel_rfl) rfl rfl ?_; have F3_12 := Aside0.mk N3.out; have HB12 := Aside0.mk (rowBelow (below_alloc HB11.out (.cells Z16 33)) HB11.out.size (nodeA m3 A3 c3)); have F0_12 := Aside0.mk (F0_11.out.store (nodeA m3 A3 c3) (.cells Z16 33)); have F1_12 := Aside0.mk (F1_11.out.store (nodeA m3 A3 c3) (.cells Z16 33)); have F2_12 := Aside0.mk (F2_11.out.store (nodeA m3 A3 c3) (.cells Z16 33)); clear HB11 N3 F0_11 F1_11 F2_11; have h0 := fun i => blk_cell F0_12.out.1 i; have h1 := fun i => blk_cell F1_12.out.1 i; have h2 := fun i => blk_cell F2_12.out.1 i; have h3 := fun i => blk_cell F3_12.out.1 i)
  | (go_at_call 29; (with_reducible refine (HT0.out _ _ _ F0_12.out.now).mono ?_); rintro e x0 ⟨rfl, hb⟩; have HB13 := Aside0.mk (below_step HB12.out hb); have F1_13 := Aside0.mk (F1_12.out.below hb); have F2_13 := Aside0.mk (F2_12.out.below hb); have F3_13 := Aside0.mk (F3_12.out.below hb); clear F0_12 F1_12 F2_12 F3_12 h0 h1 h2 h3; have h1 := fun i => blk_cell F1_13.out.1 i; have h2 := fun i => blk_cell F2_13.out.1 i; have h3 := fun i => blk_cell F3_13.out.1 i; clear hb HB12)
  | (go_at_call 29; (with_reducible refine (HT1.out _ _ _ F1_13.out.now).mono ?_); rintro e x1 ⟨rfl, hb⟩; have HB14 := Aside0.mk (below_step HB13.out hb); have F2_14 := Aside0.mk (F2_13.out.below hb); have F3_14 := Aside0.mk (F3_13.out.below hb); clear F1_13 F2_13 F3_13 h1 h2 h3; have h2 := fun i => blk_cell F2_14.out.1 i; have h3 := fun i => blk_cell F3_14.out.1 i; clear hb HB13)
  | (go_at_call 29; (with_reducible refine (HT2.out _ _ _ F2_14.out.now).mono ?_); rintro e x2 ⟨rfl, hb⟩; have HB15 := Aside0.mk (below_step HB14.out hb); have F3_15 := Aside0.mk (F3_14.out.below hb); clear F2_14 F3_14 h2 h3; have h3 := fun i => blk_cell F3_15.out.1 i; clear hb HB14)
  | (go_at_call 29; (with_reducible refine (HT3.out _ _ _ F3_15.out.now).mono ?_); rintro e x3 ⟨rfl, hb⟩; have HB16 := Aside0.mk (below_step HB15.out hb); skip; clear F3_15 h3; skip; clear hb HB15))
 go_ret
 exact ⟨rfl, HB16.out⟩
theorem of_parseN {s : ByteArray} {n : Nd} (h : parseN s = some n) (W : World) : Calls Tryz.prog 28 #[.string s] W (NodeOut n W) := by
 unfold parseN at h
 obtain ⟨⟨l, a, b⟩, e1, h⟩ := opt_bind h
 by_cases hb : b = 0
 ·rw [if_pos hb] at h
  subst hb
  obtain ⟨⟨m, i, bad⟩, e2, h⟩ := opt_bind h
  cases bad with
  | true => cases h
  | false =>
   rw [if_pos rfl] at h
   obtain ⟨t, e3, h⟩ := opt_bind h
   by_cases hc : t.f0 = 0 ∧ ¬depthI m = 0 ∧ ¬depthI m > 40
   ·rw [if_pos hc] at h
    obtain rfl := Option.some.inj h
    exact of_calls s m W ⟨fun W2 => parse_ok 200 100 s l a i (depthI m) m t W2 ⟨e1⟩ ⟨e2⟩ e3 hc.1 ⟨rfl⟩ hc.2.1 hc.2.2⟩
   ·rw [if_neg hc] at h; cases h
 ·rw [if_neg hb] at h; cases h
theorem text_textN {m : Nd} {s : ByteArray} (h : textN m = some s) (W : World) (A : Option Addr) (c : Nat) (hK : KidsC W A c m.f5) : Calls Tryz.prog 29 #[nodeV m A c] W (TextOut s W) := by
 unfold textN at h
 by_cases hc : checkI m = 0 ∧ longS m ≤ 2048
 ·rw [if_pos hc] at h
  obtain ⟨t, e, h⟩ := opt_bind h
  by_cases hs : (t.size : Int) ≤ 1023
  ·rw [if_pos hs] at h
   obtain rfl := Option.some.inj h
   exact lawtext_calls 10 m t A c W hK hc.1 hc.2 e hs
  ·rw [if_neg hs] at h; cases h
 ·rw [if_neg hc] at h; cases h
theorem sameT_ok {x : Option ByteArray} {l : List UInt8} (h : sameT x l = true) : x = some ⟨l.toArray⟩ := by
 unfold sameT at h
 cases x with
 | none => cases h
 | some s =>
  have e : s.data.toList = l := by simpa using h
  rw [← e]
theorem lives_calls (w : World) (hL0 : Aside0 (LaidW w)) : Calls Tryz.prog 10 #[] w fun e w' => e = .returned (.bool true) ∧ Below w.heap.size w w' := by
 have hA := livesA_ok
 have hC := livesC_ok
 unfold livesA at hA
 unfold livesC at hC
 cases ea : parseN exA with
 | none => rw [ea] at hA; cases hA
 | some a =>
  cases ec : parseN exC with
  | none => rw [ec] at hC; cases hC
  | some c =>
   rw [ea] at hA
   rw [ec] at hC
   simp only [Bool.and_eq_true, beq_iff_eq] at hA hC
   obtain ⟨⟨⟨p0, p1⟩, p2⟩, p3⟩ := hA
   obtain ⟨⟨⟨q0, q1⟩, q2⟩, q3⟩ := hC
   exact lives_walk a c (moveN 1 3 1 a) (moveN 2 3 1 a) (shiftN 1 1 c) (shiftN (-1) 0 c) w ⟨of_parseN ea⟩ ⟨of_parseN ec⟩
    ⟨fun W A_ c_ hW hK => by have h := move_calls 1 3 1 a A_ c_ W hK (LaidAt hL0 hW); rwa [p0] at h⟩
    ⟨fun W A_ c_ hW hK => by have h := move_calls 2 3 1 a A_ c_ W hK (LaidAt hL0 hW); rwa [p1] at h⟩
    ⟨fun W A_ c_ hW hK => by have h := shift_calls 1 1 c A_ c_ W hK (LaidAt hL0 hW); rwa [q0] at h⟩
    ⟨fun W A_ c_ hW hK => by have h := shift_calls (-1) 0 c A_ c_ W hK (LaidAt hL0 hW); rwa [q1] at h⟩
    ⟨fun W A_ c_ hK => text_textN (sameT_ok p2) W A_ c_ hK⟩ ⟨fun W A_ c_ hK => text_textN (sameT_ok p3) W A_ c_ hK⟩
    ⟨fun W A_ c_ hK => text_textN (sameT_ok q2) W A_ c_ hK⟩ ⟨fun W A_ c_ hK => text_textN (sameT_ok q3) W A_ c_ hK⟩
theorem boxStore {W : World} {g : Nat} {o : Obj} (h : W.heap[g]? = some o) (cs : Array Value) (p : Obj) : ((W.alloc p).setRow W.heap.size cs).heap[g]? = some o := by
 have hlt := blk_lt h
 exact rowOther _ (blk_alloc h _) (by omega)
def through7.T7 : Bool × List (List Nat × List Nat) := (true, [([], []), ([], []), ([1], [1]), ([], []), ([2, 3], [2, 3]), ([4], [4]), ([], []), ([5, 6], [5, 6]), ([7], [7]), ([0, 8, 7], [0, 8]), ([9, 9, 0, 1, 2, 3, 4, 5, 6, 7, 8, 9], [0, 9])])
def through7.B7 : List Nat := [0, 0, 2, 0, 14, 30, 0, 126, 254, 511, 1023]
theorem through7.tab7 : rtab .any (opsOf Tryz.f40 7) = through7.T7 := by kernel_rfl
theorem through7.bits7 : waitsOk through7.T7.2 through7.B7 = true := by kernel_rfl
theorem through_leaf (n m : Nd) (x y z : Int) (A : Option Addr) (c : Nat) (w : World) (hk : n.f0 = 2 ∨ n.f0 = 3) (HM : Aside0 (∀ W, Calls Tryz.prog 76 #[nodeV n A c, .agg (edA x y z)] W (NodeOut m W))) :
  Calls Tryz.prog 40 #[nodeV n A c, .agg (edA x y z)] w (NodeOut m w) := by
 have hz : w.heap.size + 2 < (((w.alloc (.cells (nodeA n A c) 33)).alloc (.cells (edA x y z) 47)).alloc (.cells (nodeA zeroN none 0) 33)).heap.size := blk_lt (newBlk3c w _ _ _)
 have HZ := Aside0.mk hz
 clear hz
 have key : ∀ b1 b2 : Bool, (n.f0 == 2) = b1 → (n.f0 == 3) = b2 → (b1 || b2) = true → Calls Tryz.prog 40 #[nodeV n A c, .agg (edA x y z)] w (NodeOut m w) := by
  intro b1 b2 e1 e2 e3
  cases b1 <;> cases b2
  ·cases e3
  all_goals
   clear e3 hk
   have HB0 := Aside0.mk (bel3 w (.cells (nodeA n A c) 33) (.cells (edA x y z) 47) (.cells (nodeA zeroN none 0) 33))
   have B2 := Aside0.mk (newBlk3a w (.cells (nodeA n A c) 33) (.cells (edA x y z) 47) (.cells (nodeA zeroN none 0) 33))
   have B3 := Aside0.mk (newBlk3b w (.cells (nodeA n A c) 33) (.cells (edA x y z) 47) (.cells (nodeA zeroN none 0) 33))
   have B4 := Aside0.mk (newBlk3c w (.cells (nodeA n A c) 33) (.cells (edA x y z) 47) (.cells (nodeA zeroN none 0) 33))
   have h2 := fun i => blk_cell B2.out i
   go_enter Tryz.func40, Tryz.ntmps40
   go_wp2_with (first
    | ((with_reducible refine gate_dst (N := 15) rfl ?_); refine wpPartLd 15 rfl rfl 33 (.tmp 2) rfl _ rfl _ (nodeA n A c) [] (B2.out) rfl Tryz.underlying33 rfl (by kernel_rfl) ?_)
    | ((with_reducible refine gate_dst (N := 16) rfl ?_); refine wpPartLd 16 rfl rfl 47 (.tmp 3) rfl _ rfl _ (edA x y z) [] (B3.out) rfl Tryz.underlying47 rfl (by kernel_rfl) ?_)
    | (go_at_call 76; (with_reducible refine (HM.out _).mono ?_); rintro e w1 ⟨A2, c2, rfl, hF, hb⟩; have HB_1 := Aside0.mk (below_step HB0.out hb); have n_1 := Aside0.mk (blk_below B2.out hb); have e_1 := Aside0.mk (blk_below B3.out hb); have o_1 := Aside0.mk (blk_below B4.out hb); have HF := Aside0.mk hF; clear hF; clear hb HB0 B2 B3 B4 h2)
    | ((with_reducible refine gate_store (t := 33) (p := 4) (v := .tmp 17) rfl ?_); refine wpRowSt rfl 33 (.tmp 4) (.tmp 17) rfl ((w.heap.size + 2)) (nodeA m A2 c2) rfl rfl 33 _ (o_1.out) (by kernel_rfl) rfl rfl ?_))
   refine bodyPost_ret (results_cell_row rfl _ _ (w.heap.size + 2) 33 (nodeA m A2 c2) (0, 0) _ rfl (setRow_heap _ _ _ _ _ _ o_1.out) Tryz.underlying33 rfl (by kernel_rfl)) rfl ?_
   exact ⟨A2, c2, rfl, ⟨HF.out.1, Kd.F_mono (Kd.F_step HF.out.2 (fun z hz _ => setRow_other _ _ z _ (by have hz2 := hz; simp at hz2; omega))) (fun z hz => by simp at hz; omega)⟩, rowBelow HB_1.out (by omega) _⟩
 exact key _ _ rfl rfl (by rcases hk with h | h <;> simp [h])
theorem through_calls (x y z : Int) (Q : Nd → Bool) (HMv : ∀ (n : Nd) (A : Option Addr) (c : Nat) (W : World), Q n = true → leafB n = true → n.f0 = 2 ∨ n.f0 = 3 → Calls Tryz.prog 76 #[nodeV n A c, .agg (edA x y z)] W (NodeOut (moveS x y z n) W)) (d : Nat) : ∀ (n : Nd) (A : Option Addr) (c : Nat) (w : World) (hd : szN n < d) (hK : KidsC w A c n.f5) (hS : allS leafB n = true) (hQ : allS Q n = true),
  Calls Tryz.prog 40 #[nodeV n A c, .agg (edA x y z)] w (NodeOut (moveS x y z n) w) := by
 induction d with
 | zero => intro n A c w hd; omega
 | succ d ih =>
 intro n A c w hd hK hS hQ
 by_cases hk : n.f0 = 2 ∨ n.f0 = 3
 ·exact through_leaf n _ x y z A c w hk ⟨fun W => HMv n A c W (allS_kid hQ).1 (allS_kid hS).1 hk⟩
 ·have hne : w.heap.size + 2 ≠ w.heap.size := by omega
  have h2' : ¬n.f0 = 2 := fun h => hk (Or.inl h)
  have h3' : ¬n.f0 = 3 := fun h => hk (Or.inr h)
  obtain ⟨hlc, hC⟩ := hK
  have hmax := hC.2.1
  have HC := Aside0.mk hC
  have HI := Aside0.mk fun n A c w hd hK hp => ih n A c w hd hK (And.left hp) (And.right hp)
  have HD := Aside0.mk hd
  have HS := Aside0.mk (And.intro (allS_kid hS).1 fun x hx => And.intro ((allS_kid hS).2 x hx) ((allS_kid hQ).2 x hx))
  clear hC ih hd hS hQ HMv
  have hfew : n.f5.length ≤ 4096 := by have := HS.out.1; simp only [leafB, Bool.and_eq_true, decide_eq_true_eq] at this; exact this.1
  have hx := wayS_eq (way1 (movC x y z) (movB x y z)) (way2 (movX x y z) (movY x y z) (fun p q => (movR x y z p q).2.1)) n
  rw [if_neg h2', if_neg h3'] at hx
  have HX := Aside0.mk (show moveS x y z n = withK n (n.f5.map (moveS x y z)) from hx)
  clear hx hk
  generalize moveS x y z n = rr at HX ⊢
  have hb2 : (n.f0 == 2) = false := by simp [h2']
  have hb3 : (n.f0 == 3) = false := by simp [h3']
  clear h2' h3'
  have HB0 := Aside0.mk (bel3 w (.cells (nodeA n A c) 33) (.cells (edA x y z) 47) (.cells (nodeA zeroN none 0) 33))
  have B2 := Aside0.mk (newBlk3a w (.cells (nodeA n A c) 33) (.cells (edA x y z) 47) (.cells (nodeA zeroN none 0) 33))
  have B3 := Aside0.mk (newBlk3b w (.cells (nodeA n A c) 33) (.cells (edA x y z) 47) (.cells (nodeA zeroN none 0) 33))
  have B4 := Aside0.mk (newBlk3c w (.cells (nodeA n A c) 33) (.cells (edA x y z) 47) (.cells (nodeA zeroN none 0) 33))
  have h2 := fun i => blk_cell B2.out i
  go_enter Tryz.func40, Tryz.ntmps40
  go_wp2
  go_loopw [5, 6] (fun v i wr => ∃ (q : Nat), q ≤ n.f5.length ∧ i = .int .i64 q ∧ Aside0 (Kd.N k33 33 wr w.heap.size (fun z => w.heap.size + 3 ≤ z) v ((n.f5.take q).map (moveS x y z))) ∧ Aside0 (w.heap.size + 3 ≤ wr.heap.size) ∧ Aside0 (Below w.heap.size w wr) ∧ Aside0 (wr.heap[w.heap.size]? = some (.cells (nodeA n A c) 33 (0, 0))) ∧ Aside0 (wr.heap[w.heap.size + 1]? = some (.cells (edA x y z) 47 (0, 0))) ∧ Aside0 (wr.heap[w.heap.size + 2]? = some (.cells (nodeA zeroN none 0) 33 (0, 0)))) (fun _ i _ => n.f5.length - (intOf i).toNat)
  case atStart => exact ⟨0, by omega, rfl, ⟨Kd.N_nil _ _ _ _ _⟩, ⟨by first | (simp; done) | (simp; omega)⟩, HB0, B2, B3, B4⟩
  case round =>
   clear HB0 B2 B3 B4 h2
   obtain ⟨q, hk, rfl, HN, HZ, HB, HBk, HEd, HO⟩ := hrel
   have hc15 : wr.cell? ⟨w.heap.size, 15, none⟩ = some (.slice A n.f5.length c) := (blk_cell HBk.out 15).trans rfl
   have hce := fun i => blk_cell HEd.out i
   by_cases hkl : q < n.f5.length
   ·obtain ⟨ad, A', c', e, hK', hCA⟩ := kid_at (Kd.C_below HC.out HB.out) q hkl
    subst e
    have HK' := Aside0.mk hK'
    have HCA := Aside0.mk hCA
    clear hK' hCA
    have HM := Aside0.mk (List.getElem_mem hkl)
    have HT := Aside0.mk (show (n.f5.take (q + 1)).map (moveS x y z) = (n.f5.take q).map (moveS x y z) ++ [moveS x y z n.f5[q]] by rw [List.take_succ_eq_append_getElem hkl, List.map_append]; rfl)
    have HCk := Aside0.mk fun (W : World) (h : Below wr.heap.size wr W) => HI.out n.f5[q] A' c' W (by have := kid_lt HM.out; have := HD.out; omega) (HK'.out.below h) (HS.out.2 _ HM.out)
    go_wp2
    refine start_ (n := 11) (S := (fun w' => Below wr.heap.size wr w')) (ds := [9]) (Array.replicate 11 false) (by kernel_rfl) rfl rfl (below_drew1 (Below.refl _ _)) (fun hHeld => ?_)
    refine with_tabW through7.tab7 through7.bits7 (fun HT_ HW_ => ?_)
    refine pz 0 25 HT_ ?_; refine pz 1 26 HT_ ?_; refine pz 3 28 HT_ ?_
    refine tz 2 27 HT_ HW_ (hr := (by rintro w' s0; have q_ := fun i => blk_cell (blk_below HBk.out s0) i; go_simp; with_reducible rfl)) (hS := hHeld) (h := ?_)
    refine pz 4 29 HT_ ?_
    refine tz 5 30 HT_ HW_ (hr := (by rintro w' s0; exact rowRunAt (p := ad.add (q * 16)) rfl rfl (HCA.out.below s0) Tryz.underlying33 rfl (by kernel_rfl))) (hS := hHeld) (h := ?_)
    refine tz 6 31 HT_ HW_ (hr := (by rintro w' s0; exact partRun (cs := edA x y z) [] rfl rfl (blk_below HEd.out s0) rfl Tryz.underlying47 rfl (by kernel_rfl))) (hS := hHeld) (h := ?_)
    refine oneI 7 (some 32) HT_ rfl rfl (by kernel_rfl) (by decide) (fun K hK => ?_)
    refine goes_ Tryz.func40 (by kernel_rfl) rfl #[nodeV n.f5[q] A' c', .agg (edA x y z)] (by (try simp only [List.map_toArray, List.map_cons, List.map_nil]); first | done | rfl) rfl rfl (by first | rfl | ((try simp only [List.map_toArray, List.map_cons, List.map_nil]); first | done | rfl)) ?_
    with_reducible refine (HCk.out _ hHeld).mono ?_
    rintro e w3 ⟨A2, c2, rfl, hF, hb⟩
    refine ⟨_, rfl, ?_⟩
    have HF := Aside0.mk hF
    have HB3 := Aside0.mk (below_step hHeld hb)
    clear hF
    refine hK.out _ _ (below_step hHeld hb) (fun hHeld => ?_)
    clear hK K
    refine nz 32 ?_
    refine oneI 8 (some 33) HT_ rfl rfl (by kernel_rfl) (by decide) (fun K hK => ?_)
    refine value_ (v := .slice (some ⟨w3.heap.size, 0, none⟩) 1 1) (w1 := w3.alloc (.cells (nodeA (moveS x y z n.f5[q]) A2 c2).toList.toArray 33)) (by rfl) rfl (by first | (go_simp; done) | (go_simp; rfl)) ?_
    refine hK.out _ _ (below_alloc hHeld _) (fun hHeld => ?_)
    clear hK K
    refine nz 33 ?_
    refine lastI 9 (some 34) HT_ rfl rfl (by kernel_rfl) (by decide) (fun K hK => ?_)
    refine Kd.N_append_step k33 (w0 := w) w.heap.size (by rfl) (.tmp 25) (.tmp 33) 31 33 (.agg #[(.int .i64 0), (.int .i64 0), (.int .i64 0), (.string ⟨#[]⟩), (.bool false), (.int .i64 0), (.int .i64 0), (.int .i64 0), (.bool false), (.bool false), (.int .i64 0), (.int .i64 0), (.bool false), (.bool false), (.string ⟨#[]⟩), (.slice none 0 0)]) 144 rfl Tryz.underlying31 info33 rfl (by decide) (by omega) _ ((n.f5.take q).map (moveS x y z)) (moveS x y z n.f5[q]) (nodeA (moveS x y z n.f5[q]) A2 c2).toList (fun z => w.heap.size + 3 ≤ z) (fun z => wr.heap.size ≤ z) rfl rfl (kid_FK _ HF.out) ?aK ?aF (Kd.N_below HN.out HB3.out) (below_step HB.out HB3.out) ?aS ?aL ?_
    case aK => exact fun z hz => ⟨Nat.le_trans HZ.out hz, fun he => by have := Kd.N_lt HN.out _ he.symm; omega⟩
    case aF => exact fun z hz => by have := HZ.out; have := HB3.out.size; omega
    case aS => exact (below_size (below_step HB.out HB3.out))
    case aL => rw [List.length_map, List.length_take]; omega
    intro v1 w4 ho hb2 hg hat
    have HN2 := Aside0.mk ho
    have HB2 := Aside0.mk hb2
    have HG2 := Aside0.mk hg
    clear ho hb2 hg hat
    refine hK.out _ _ ?_
    clear hK K
    refine nz 34 ?_
    refine pz 10 5 HT_ ?_
    refine done_ (done_of HT_.out (by kernel_rfl)) ?_
    go_wp2
    have h2' := blk_grown (blk_below HO.out HB3.out) HG2.out (fun he => by have := HN.out.1 _ he.symm; omega)
    refine ⟨⟨q + 1, by omega, by go_num, ⟨by rw [HT.out]; exact HN2.out⟩, ⟨by have := blk_lt h2'; omega⟩, HB2, ⟨blk_grown (blk_below HBk.out HB3.out) HG2.out (fun he => by have := HN.out.1 _ he.symm; omega)⟩, ⟨blk_grown (blk_below HEd.out HB3.out) HG2.out (fun he => by have := HN.out.1 _ he.symm; omega)⟩, ⟨h2'⟩⟩, ?_⟩
    simp [intOf]; omega
   ·have HN' := Aside0.mk HN.out
    rw [List.take_of_length_le (by omega)] at HN'
    obtain ⟨A2, c2, rfl⟩ := Kd.N_slice HN'.out
    have HKc := Aside0.mk fun (W : World) => (by have := kids_calls n A c (n.f5.map (moveS x y z)) A2 c2 W; rw [List.length_map] at this; exact this : Calls Tryz.prog 61 #[nodeV n A c, .slice A2 n.f5.length c2] W fun e w' => e = .returned (nodeV (withK n (n.f5.map (moveS x y z))) A2 c2) ∧ Below W.heap.size W w')
    clear HN HC HI HS
    have hcl := fun i => blk_cell HBk.out i
    go_wp2_with (first
     | (go_at_call 61; (with_reducible refine (HKc.out _).mono ?_); rintro e w3 ⟨rfl, hb⟩; have HB3 := Aside0.mk hb; have D6 := Aside0.mk (blk_below HO.out hb); clear hb)
     | ((with_reducible refine gate_store (t := 33) (p := 4) (v := .tmp 37) rfl ?_); refine wpRowSt rfl 33 (.tmp 4) (.tmp 37) rfl (w.heap.size + 2) (nodeA (withK n (n.f5.map (moveS x y z))) A2 c2) rfl rfl 33 _ D6.out (by kernel_rfl) rfl rfl ?_))
    refine bodyPost_ret (results_cell_row rfl _ _ (w.heap.size + 2) 33 (nodeA (withK n (n.f5.map (moveS x y z))) A2 c2) (0, 0) _ rfl (setRow_heap _ _ _ _ _ _ D6.out) Tryz.underlying33 rfl (by kernel_rfl)) rfl ?_
    rw [HX.out]
    exact ⟨A2, c2, rfl, ⟨(Kd.N_reads' HN'.out).2.1, Kd.F_mono (Kd.F_step (Kd.N_F (Kd.N_below HN'.out HB3.out)) (fun z hz _ => setRow_other _ _ z _ (by omega))) (fun z hz => by omega)⟩, rowBelow (below_step HB.out HB3.out) (by omega) _⟩
theorem headB_refl (n : Nd) : headB n n = true := by
 unfold headB
 simp
mutual
theorem sameS_refl : ∀ n : Nd, sameS n n = true
 | ⟨a, v, c, t, s, l⟩ => by
  rw [sameS, headB_refl, sameL_refl l]
  rfl
theorem sameL_refl : ∀ l : List Nd, sameL l l = true
 | [] => by rw [sameL]
 | x :: r => by rw [sameL, sameS_refl x, sameL_refl r]; rfl
end
theorem few_of_depth {n : Nd} (h : ¬depthI n = 0) : allS fewB n = true := by
 refine fewS n 4096 (by omega) (by omega) ?_
 unfold depthI at h
 by_cases h1 : nodesS n 4096 > 4096 ∨ levelsS n 160 > 160
 ·rw [if_pos h1] at h; exact absurd rfl h
 ·omega
theorem same_self (m : Nd) (W : World) (A_ : Option Addr) (c_ : Nat) (B_ : Option Addr) (e_ : Nat) (h1 : KidsC W A_ c_ m.f5) (h2 : KidsC W B_ e_ m.f5) : Calls Tryz.prog 14 #[nodeV m A_ c_, nodeV m B_ e_] W fun e w' => e = .returned (.bool true) ∧ Below W.heap.size W w' := by
 have h := Same_calls (szN m + 1) m m A_ B_ c_ e_ W (Nat.lt_succ_self _) h1 h2
 rwa [sameS_refl] at h
theorem deep_yes {n : Nd} (h : depthI n = 0) {A : Option Addr} {c : Nat} {w : World} (hK : KidsC w A c n.f5) (W : World) (hW : Below w.heap.size w W) : Calls Tryz.prog 9 #[nodeV n A c] W fun e w' => e = .returned (.bool true) ∧ Below W.heap.size W w' := by
 have q := deep_calls n A c W (hK.below hW)
 rwa [h] at q
theorem deep_no {n : Nd} (h : ¬depthI n = 0) {A : Option Addr} {c : Nat} {w : World} (hK : KidsC w A c n.f5) (W : World) (hW : Below w.heap.size w W) : Calls Tryz.prog 9 #[nodeV n A c] W fun e w' => e = .returned (.bool false) ∧ Below W.heap.size W w' := by
 have q := deep_calls n A c W (hK.below hW)
 rwa [show (depthI n == 0) = false from by simpa using h] at q
theorem way1_fix (a b d : Int) (c c' : Ce) (h : way1 (movC a b d) (movB a b d) c = some c') : c'.f1 = c.f1 := by
 unfold way1 at h
 split at h
 ·cases h; rfl
 ·cases h
theorem way2_fix (a b d : Int) (c t : Ce) (p : Ce × Ce) (h : way2 (movX a b d) (movY a b d) (fun p q => (movR a b d p q).2.1) c t = some p) : p.1.f1 = c.f1 ∧ p.2.f2 = t.f2 := by
 unfold way2 at h
 split at h
 ·cases h; exact ⟨rfl, rfl⟩
 ·cases h
theorem moveN_S {x y z : Int} {n : Nd} (h1 : moveE x y z n = 0) : moveN x y z n = moveS x y z n := by
 unfold moveE at h1
 unfold moveN
 by_cases hc : checkI n = 0
 ·rw [if_pos hc] at h1 ⊢
  by_cases he : edB x y z = true
  ·rw [if_pos he]
  ·rw [if_neg he] at h1; cases h1
 ·rw [if_neg hc] at h1; exact absurd h1 hc
end Go.Proofs.YthnldbclbfpojaaGreatDoor.Pr
end
