/-
  Lemmas for the law RFollowsRBack.
-/
import Derived.Test.YthnldbclbfpojaaGreatDoorSRFollowsRBack24
import Derived.Test.YthnldbclbfpojaaGreatDoorSRFollowsRBack42
import Derived.Test.YthnldbclbfpojaaGreatDoorSRFollowsRBack45
import Derived.Test.YthnldbclbfpojaaGreatDoorSRFollowsRBack40
import Derived.Test.YthnldbclbfpojaaGreatDoorSRFollowsRBack28
import Derived.Test.YthnldbclbfpojaaGreatDoorSRFollowsRBack18
import Derived.Test.YthnldbclbfpojaaGreatDoorSRFollowsRBack26
import Derived.Test.YthnldbclbfpojaaGreatDoorSRFollowsRBack5
import Derived.Deep.RegionHeld3
set_option maxHeartbeats 8000000
set_option maxRecDepth 100000
set_option linter.unusedVariables false
set_option linter.unusedSimpArgs false
section
namespace Go.Proofs.YthnldbclbfpojaaGreatDoor.Pr
open Go.RowKit Go.Proofs.YthnldbclbfpojaaGreatDoorW.PrintWords Go.Proofs.YthnldbclbfpojaaGreatDoorW.PrintLast Go.Proofs.YthnldbclbfpojaaGreatDoorW.PrintMore
def parseN (s : ByteArray) : Option Nd :=
 (foolscapref07_Scan.f 200 s).bind fun p => if p.2.2 = 0 then (readS 100 p.1 0 0).bind fun r => if r.bad = false then (tokS p.1 r.i).bind fun t => if t.f0 = 0 ∧ ¬depthI r.n = 0 ∧ ¬depthI r.n > 40 then some r.n else none else none else none
def textN (n : Nd) : Option ByteArray :=
 if checkI n = 0 ∧ longS n ≤ 2048 then (textS 10 n).bind fun s => if (s.size : Int) ≤ 1023 then some s else none else none
def exA : ByteArray := ⟨#[65, 51, 43, 83, 85, 77, 40, 66, 50, 58, 66, 53, 41]⟩
def exC : ByteArray := ⟨#[65, 49, 43, 36, 65, 36, 49, 43, 65, 36, 49]⟩
def sameT (x : Option ByteArray) (l : List UInt8) : Bool := match x with | some s => s.data.toList == l | none => false
def livesA : Bool := match parseN exA with
 | some n => moveE 1 3 1 n == 0 && moveE 2 3 1 n == 0 && sameT (textN (moveN 1 3 1 n)) [65, 52, 43, 83, 85, 77, 40, 66, 50, 58, 66, 54, 41] && sameT (textN (moveN 2 3 1 n)) [35, 82, 69, 70, 33, 43, 83, 85, 77, 40, 66, 50, 58, 66, 52, 41]
 | none => false
def livesC : Bool := match parseN exC with
 | some n => shiftE 1 1 n == 0 && shiftE (-1) 0 n == 0 && sameT (textN (shiftN 1 1 n)) [66, 50, 43, 36, 65, 36, 49, 43, 66, 36, 49] && sameT (textN (shiftN (-1) 0 n)) [35, 82, 69, 70, 33, 43, 36, 65, 36, 49, 43, 65, 36, 49]
 | none => false
theorem livesA_ok : livesA = true := by decide +kernel
theorem livesC_ok : livesC = true := by decide +kernel
def Held (W : World) (g : Nat) (m : Nd) (A : Option Addr) (c : Nat) : Prop := W.heap[g]? = some (.cells (nodeA m A c) 33 (0, 0)) ∧ KidsP W (fun k => k < g) A c m.f5
theorem Held.below {W W' : World} {g : Nat} {m : Nd} {A : Option Addr} {c : Nat} (h : Held W g m A c) (hb : Below W.heap.size W W') : Held W' g m A c := ⟨blk_below h.1 hb, KidsP.below h.2 hb⟩
theorem Held.now {W : World} {g : Nat} {m : Nd} {A : Option Addr} {c : Nat} (h : Held W g m A c) : KidsC W A c m.f5 := ⟨h.2.1, Kd.F_now h.2.2⟩
theorem Held.store {W : World} {g : Nat} {m : Nd} {A : Option Addr} {c : Nat} (h : Held W g m A c) (cs : Array Value) (o : Obj) : Held ((W.alloc o).setRow W.heap.size cs) g m A c := by
 have hlt := blk_lt h.1
 exact ⟨rowOther _ (blk_alloc h.1 _) (by omega), KidsP.row (KidsP.below h.2 (bel1 W _)) _ _ (fun k hk => by omega)⟩
theorem heldNew {W : World} {b : Nat} {m : Nd} {A : Option Addr} {c : Nat} (h : KidsF W b A c m.f5) : Held ((W.alloc (.cells Z16 33)).setRow W.heap.size (nodeA m A c)) W.heap.size m A c :=
 ⟨setRow_heap _ _ _ _ _ _ (newBlk W _), KidsP.row (KidsP.below (KidsP.mono (KidsP.bnd h) (Q := fun k => k < W.heap.size) (fun k hk => hk.2)) (bel1 W _)) _ _ (fun k hk => by omega)⟩
theorem lives_walk (a c m0 m1 m2 m3 : Nd) (w : World) (HOa : Aside0 (∀ W, Calls Tryz.prog 28 #[.string (⟨#[65, 51, 43, 83, 85, 77, 40, 66, 50, 58, 66, 53, 41]⟩ : ByteArray)] W (NodeOut a W))) (HOc : Aside0 (∀ W, Calls Tryz.prog 28 #[.string (⟨#[65, 49, 43, 36, 65, 36, 49, 43, 65, 36, 49]⟩ : ByteArray)] W (NodeOut c W)))
  (HM0 : Aside0 (∀ W A_ c_, Below w.heap.size w W → KidsC W A_ c_ a.f5 → Calls Tryz.prog 17 #[nodeV a A_ c_, .agg (edA 1 3 1)] W (NodeIntOut m0 0 W)))
  (HM1 : Aside0 (∀ W A_ c_, Below w.heap.size w W → KidsC W A_ c_ a.f5 → Calls Tryz.prog 17 #[nodeV a A_ c_, .agg (edA 2 3 1)] W (NodeIntOut m1 0 W)))
  (HM2 : Aside0 (∀ W A_ c_, Below w.heap.size w W → KidsC W A_ c_ c.f5 → Calls Tryz.prog 12 #[nodeV c A_ c_, .int .i64 1, .int .i64 1] W (NodeIntOut m2 0 W)))
  (HM3 : Aside0 (∀ W A_ c_, Below w.heap.size w W → KidsC W A_ c_ c.f5 → Calls Tryz.prog 12 #[nodeV c A_ c_, .int .i64 (-1), .int .i64 0] W (NodeIntOut m3 0 W)))
  (HT0 : Aside0 (∀ W A_ c_, KidsC W A_ c_ m0.f5 → Calls Tryz.prog 29 #[nodeV m0 A_ c_] W (TextOut (⟨#[65, 52, 43, 83, 85, 77, 40, 66, 50, 58, 66, 54, 41]⟩ : ByteArray) W)))
  (HT1 : Aside0 (∀ W A_ c_, KidsC W A_ c_ m1.f5 → Calls Tryz.prog 29 #[nodeV m1 A_ c_] W (TextOut (⟨#[35, 82, 69, 70, 33, 43, 83, 85, 77, 40, 66, 50, 58, 66, 52, 41]⟩ : ByteArray) W)))
  (HT2 : Aside0 (∀ W A_ c_, KidsC W A_ c_ m2.f5 → Calls Tryz.prog 29 #[nodeV m2 A_ c_] W (TextOut (⟨#[66, 50, 43, 36, 65, 36, 49, 43, 66, 36, 49]⟩ : ByteArray) W)))
  (HT3 : Aside0 (∀ W A_ c_, KidsC W A_ c_ m3.f5 → Calls Tryz.prog 29 #[nodeV m3 A_ c_] W (TextOut (⟨#[35, 82, 69, 70, 33, 43, 36, 65, 36, 49, 43, 65, 36, 49]⟩ : ByteArray) W))) :
  Calls Tryz.prog 10 #[] w fun e w' => e = .returned (.bool true) ∧ Below w.heap.size w w' := by
 have HB0 := Aside0.mk (Below.refl w.heap.size w)
 go_enter Tryz.func10, Tryz.ntmps10
 go_wp2_with (first
  | (go_at_call 28; (with_reducible refine (HOa.out _).mono ?_); rintro e o0 ⟨D0, d0, rfl, hF, hb⟩; have HB1 := Aside0.mk (below_step HB0.out hb); have G0 := Aside0.mk hF.now; skip; clear hF hb HB0 )
  | (go_at_call 17; (with_reducible refine (HM0.out _ _ _ HB1.out G0.out).mono ?_); rintro e v0 ⟨A0, c0, rfl, hF, hb⟩; have HB2 := Aside0.mk (below_step HB1.out hb); have N0 := Aside0.mk (heldNew hF); skip; clear hF hb HB1 G0 )
  | ((with_reducible refine gate_store (t := 33) (p := 1) (v := .tmp 13) rfl ?_); refine wpRowSt rfl 33 (.tmp 1) (.tmp 13) rfl (v0.heap.size) (nodeA m0 A0 c0) rfl rfl 33 _ (newBlk v0 _) (by kernel_rfl) rfl rfl ?_; have F0_3 := Aside0.mk N0.out; have HB3 := Aside0.mk (rowBelow (below_alloc HB2.out (.cells Z16 33)) HB2.out.size (nodeA m0 A0 c0)); skip; clear HB2 N0 )
  | (go_at_call 28; (with_reducible refine (HOa.out _).mono ?_); rintro e o1 ⟨D1, d1, rfl, hF, hb⟩; have HB4 := Aside0.mk (below_step HB3.out hb); have G1 := Aside0.mk hF.now; have F0_4 := Aside0.mk (F0_3.out.below hb); clear hF hb HB3 F0_3)
  | (go_at_call 17; (with_reducible refine (HM1.out _ _ _ HB4.out G1.out).mono ?_); rintro e v1 ⟨A1, c1, rfl, hF, hb⟩; have HB5 := Aside0.mk (below_step HB4.out hb); have N1 := Aside0.mk (heldNew hF); have F0_5 := Aside0.mk (F0_4.out.below hb); clear hF hb HB4 G1 F0_4)
  | ((with_reducible refine gate_store (t := 33) (p := 3) (v := .tmp 19) rfl ?_); refine wpRowSt rfl 33 (.tmp 3) (.tmp 19) rfl (v1.heap.size) (nodeA m1 A1 c1) rfl rfl 33 _ (newBlk v1 _) (by kernel_rfl) rfl rfl ?_; have F1_6 := Aside0.mk N1.out; have HB6 := Aside0.mk (rowBelow (below_alloc HB5.out (.cells Z16 33)) HB5.out.size (nodeA m1 A1 c1)); have F0_6 := Aside0.mk (F0_5.out.store (nodeA m1 A1 c1) (.cells Z16 33)); clear HB5 N1 F0_5)
  | (go_at_call 28; (with_reducible refine (HOc.out _).mono ?_); rintro e o2 ⟨D2, d2, rfl, hF, hb⟩; have HB7 := Aside0.mk (below_step HB6.out hb); have G2 := Aside0.mk hF.now; have F0_7 := Aside0.mk (F0_6.out.below hb); have F1_7 := Aside0.mk (F1_6.out.below hb); clear hF hb HB6 F0_6 F1_6)
  | (go_at_call 12; (with_reducible refine (HM2.out _ _ _ HB7.out G2.out).mono ?_); rintro e v2 ⟨A2, c2, rfl, hF, hb⟩; have HB8 := Aside0.mk (below_step HB7.out hb); have N2 := Aside0.mk (heldNew hF); have F0_8 := Aside0.mk (F0_7.out.below hb); have F1_8 := Aside0.mk (F1_7.out.below hb); clear hF hb HB7 G2 F0_7 F1_7)
  | ((with_reducible refine gate_store (t := 33) (p := 5) (v := .tmp 24) rfl ?_); refine wpRowSt rfl 33 (.tmp 5) (.tmp 24) rfl (v2.heap.size) (nodeA m2 A2 c2) rfl rfl 33 _ (newBlk v2 _) (by kernel_rfl) rfl rfl ?_; have F2_9 := Aside0.mk N2.out; have HB9 := Aside0.mk (rowBelow (below_alloc HB8.out (.cells Z16 33)) HB8.out.size (nodeA m2 A2 c2)); have F0_9 := Aside0.mk (F0_8.out.store (nodeA m2 A2 c2) (.cells Z16 33)); have F1_9 := Aside0.mk (F1_8.out.store (nodeA m2 A2 c2) (.cells Z16 33)); clear HB8 N2 F0_8 F1_8)
  | (go_at_call 28; (with_reducible refine (HOc.out _).mono ?_); rintro e o3 ⟨D3, d3, rfl, hF, hb⟩; have HB10 := Aside0.mk (below_step HB9.out hb); have G3 := Aside0.mk hF.now; have F0_10 := Aside0.mk (F0_9.out.below hb); have F1_10 := Aside0.mk (F1_9.out.below hb); have F2_10 := Aside0.mk (F2_9.out.below hb); clear hF hb HB9 F0_9 F1_9 F2_9)
  | (go_at_call 12; (with_reducible refine (HM3.out _ _ _ HB10.out G3.out).mono ?_); rintro e v3 ⟨A3, c3, rfl, hF, hb⟩; have HB11 := Aside0.mk (below_step HB10.out hb); have N3 := Aside0.mk (heldNew hF); have F0_11 := Aside0.mk (F0_10.out.below hb); have F1_11 := Aside0.mk (F1_10.out.below hb); have F2_11 := Aside0.mk (F2_10.out.below hb); clear hF hb HB10 G3 F0_10 F1_10 F2_10)
  | ((with_reducible refine gate_store (t := 33) (p := 7) (v := .tmp 29) rfl ?_); refine wpRowSt rfl 33 (.tmp 7) (.tmp 29) rfl (v3.heap.size) (nodeA m3 A3 c3) rfl rfl 33 _ (newBlk v3 _) (by kernel_rfl) rfl rfl ?_; have F3_12 := Aside0.mk N3.out; have HB12 := Aside0.mk (rowBelow (below_alloc HB11.out (.cells Z16 33)) HB11.out.size (nodeA m3 A3 c3)); have F0_12 := Aside0.mk (F0_11.out.store (nodeA m3 A3 c3) (.cells Z16 33)); have F1_12 := Aside0.mk (F1_11.out.store (nodeA m3 A3 c3) (.cells Z16 33)); have F2_12 := Aside0.mk (F2_11.out.store (nodeA m3 A3 c3) (.cells Z16 33)); clear HB11 N3 F0_11 F1_11 F2_11; have h0 := fun i => blk_cell F0_12.out.1 i; have h1 := fun i => blk_cell F1_12.out.1 i; have h2 := fun i => blk_cell F2_12.out.1 i; have h3 := fun i => blk_cell F3_12.out.1 i)
  | (go_at_call 29; (with_reducible refine (HT0.out _ _ _ F0_12.out.now).mono ?_); rintro e x0 ⟨rfl, hb⟩; have HB13 := Aside0.mk (below_step HB12.out hb); have F1_13 := Aside0.mk (F1_12.out.below hb); have F2_13 := Aside0.mk (F2_12.out.below hb); have F3_13 := Aside0.mk (F3_12.out.below hb); clear F0_12 F1_12 F2_12 F3_12 h0 h1 h2 h3; have h1 := fun i => blk_cell F1_13.out.1 i; have h2 := fun i => blk_cell F2_13.out.1 i; have h3 := fun i => blk_cell F3_13.out.1 i; clear hb HB12)
  | (go_at_call 29; (with_reducible refine (HT1.out _ _ _ F1_13.out.now).mono ?_); rintro e x1 ⟨rfl, hb⟩; have HB14 := Aside0.mk (below_step HB13.out hb); have F2_14 := Aside0.mk (F2_13.out.below hb); have F3_14 := Aside0.mk (F3_13.out.below hb); clear F1_13 F2_13 F3_13 h1 h2 h3; have h2 := fun i => blk_cell F2_14.out.1 i; have h3 := fun i => blk_cell F3_14.out.1 i; clear hb HB13)
  | (go_at_call 29; (with_reducible refine (HT2.out _ _ _ F2_14.out.now).mono ?_); rintro e x2 ⟨rfl, hb⟩; have HB15 := Aside0.mk (below_step HB14.out hb); have F3_15 := Aside0.mk (F3_14.out.below hb); clear F2_14 F3_14 h2 h3; have h3 := fun i => blk_cell F3_15.out.1 i; clear hb HB14)
  | (go_at_call 29; (with_reducible refine (HT3.out _ _ _ F3_15.out.now).mono ?_); rintro e x3 ⟨rfl, hb⟩; have HB16 := Aside0.mk (below_step HB15.out hb); skip; clear F3_15 h3; skip; clear hb HB15))
 go_ret
 exact ⟨rfl, HB16.out⟩
theorem of_parseN {s : ByteArray} {n : Nd} (h : parseN s = some n) (W : World) : Calls Tryz.prog 28 #[.string s] W (NodeOut n W) := by
 unfold parseN at h
 obtain ⟨⟨l, a, b⟩, e1, h⟩ := opt_bind h
 by_cases hb : b = 0
 ·rw [if_pos hb] at h
  subst hb
  obtain ⟨⟨m, i, bad⟩, e2, h⟩ := opt_bind h
  cases bad with
  | true => cases h
  | false =>
   rw [if_pos rfl] at h
   obtain ⟨t, e3, h⟩ := opt_bind h
   by_cases hc : t.f0 = 0 ∧ ¬depthI m = 0 ∧ ¬depthI m > 40
   ·rw [if_pos hc] at h
    obtain rfl := Option.some.inj h
    exact of_calls s m W ⟨fun W2 => parse_ok 200 100 s l a i (depthI m) m t W2 ⟨e1⟩ ⟨e2⟩ e3 hc.1 ⟨rfl⟩ hc.2.1 hc.2.2⟩
   ·rw [if_neg hc] at h; cases h
 ·rw [if_neg hb] at h; cases h
theorem text_textN {m : Nd} {s : ByteArray} (h : textN m = some s) (W : World) (A : Option Addr) (c : Nat) (hK : KidsC W A c m.f5) : Calls Tryz.prog 29 #[nodeV m A c] W (TextOut s W) := by
 unfold textN at h
 by_cases hc : checkI m = 0 ∧ longS m ≤ 2048
 ·rw [if_pos hc] at h
  obtain ⟨t, e, h⟩ := opt_bind h
  by_cases hs : (t.size : Int) ≤ 1023
  ·rw [if_pos hs] at h
   obtain rfl := Option.some.inj h
   exact lawtext_calls 10 m t A c W hK hc.1 hc.2 e hs
  ·rw [if_neg hs] at h; cases h
 ·rw [if_neg hc] at h; cases h
theorem sameT_ok {x : Option ByteArray} {l : List UInt8} (h : sameT x l = true) : x = some ⟨l.toArray⟩ := by
 unfold sameT at h
 cases x with
 | none => cases h
 | some s =>
  have e : s.data.toList = l := by simpa using h
  rw [← e]
theorem lives_calls (w : World) (hL0 : Aside0 (LaidW w)) : Calls Tryz.prog 10 #[] w fun e w' => e = .returned (.bool true) ∧ Below w.heap.size w w' := by
 have hA := livesA_ok
 have hC := livesC_ok
 unfold livesA at hA
 unfold livesC at hC
 cases ea : parseN exA with
 | none => rw [ea] at hA; cases hA
 | some a =>
  cases ec : parseN exC with
  | none => rw [ec] at hC; cases hC
  | some c =>
   rw [ea] at hA
   rw [ec] at hC
   simp only [Bool.and_eq_true, beq_iff_eq] at hA hC
   obtain ⟨⟨⟨p0, p1⟩, p2⟩, p3⟩ := hA
   obtain ⟨⟨⟨q0, q1⟩, q2⟩, q3⟩ := hC
   exact lives_walk a c (moveN 1 3 1 a) (moveN 2 3 1 a) (shiftN 1 1 c) (shiftN (-1) 0 c) w ⟨of_parseN ea⟩ ⟨of_parseN ec⟩
    ⟨fun W A_ c_ hW hK => by have h := move_calls 1 3 1 a A_ c_ W hK (LaidAt hL0 hW); rwa [p0] at h⟩
    ⟨fun W A_ c_ hW hK => by have h := move_calls 2 3 1 a A_ c_ W hK (LaidAt hL0 hW); rwa [p1] at h⟩
    ⟨fun W A_ c_ hW hK => by have h := shift_calls 1 1 c A_ c_ W hK (LaidAt hL0 hW); rwa [q0] at h⟩
    ⟨fun W A_ c_ hW hK => by have h := shift_calls (-1) 0 c A_ c_ W hK (LaidAt hL0 hW); rwa [q1] at h⟩
    ⟨fun W A_ c_ hK => text_textN (sameT_ok p2) W A_ c_ hK⟩ ⟨fun W A_ c_ hK => text_textN (sameT_ok p3) W A_ c_ hK⟩
    ⟨fun W A_ c_ hK => text_textN (sameT_ok q2) W A_ c_ hK⟩ ⟨fun W A_ c_ hK => text_textN (sameT_ok q3) W A_ c_ hK⟩
theorem headB_refl (n : Nd) : headB n n = true := by
 unfold headB
 simp
mutual
theorem sameS_refl : ∀ n : Nd, sameS n n = true
 | ⟨a, v, c, t, s, l⟩ => by
  rw [sameS, headB_refl, sameL_refl l]
  rfl
theorem sameL_refl : ∀ l : List Nd, sameL l l = true
 | [] => by rw [sameL]
 | x :: r => by rw [sameL, sameS_refl x, sameL_refl r]; rfl
end
theorem same_self (m : Nd) (W : World) (A_ : Option Addr) (c_ : Nat) (B_ : Option Addr) (e_ : Nat) (h1 : KidsC W A_ c_ m.f5) (h2 : KidsC W B_ e_ m.f5) : Calls Tryz.prog 14 #[nodeV m A_ c_, nodeV m B_ e_] W fun e w' => e = .returned (.bool true) ∧ Below W.heap.size W w' := by
 have h := Same_calls (szN m + 1) m m A_ B_ c_ e_ W (Nat.lt_succ_self _) h1 h2
 rwa [sameS_refl] at h
theorem deep_yes {n : Nd} (h : depthI n = 0) {A : Option Addr} {c : Nat} {w : World} (hK : KidsC w A c n.f5) (W : World) (hW : Below w.heap.size w W) : Calls Tryz.prog 9 #[nodeV n A c] W fun e w' => e = .returned (.bool true) ∧ Below W.heap.size W w' := by
 have q := deep_calls n A c W (hK.below hW)
 rwa [h] at q
theorem deep_no {n : Nd} (h : ¬depthI n = 0) {A : Option Addr} {c : Nat} {w : World} (hK : KidsC w A c n.f5) (W : World) (hW : Below w.heap.size w W) : Calls Tryz.prog 9 #[nodeV n A c] W fun e w' => e = .returned (.bool false) ∧ Below W.heap.size W w' := by
 have q := deep_calls n A c W (hK.below hW)
 rwa [show (depthI n == 0) = false from by simpa using h] at q
theorem moveN_S {x y z : Int} {n : Nd} (h1 : moveE x y z n = 0) : moveN x y z n = moveS x y z n := by
 unfold moveE at h1
 unfold moveN
 by_cases hc : checkI n = 0
 ·rw [if_pos hc] at h1 ⊢
  by_cases he : edB x y z = true
  ·rw [if_pos he]
  ·rw [if_neg he] at h1; cases h1
 ·rw [if_neg hc] at h1; exact absurd h1 hc
end Go.Proofs.YthnldbclbfpojaaGreatDoor.Pr
end
