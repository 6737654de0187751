/-
  Lemmas for the law RFollowsRBack.
-/
import Derived.Test.YthnldbclbfpojaaGreatDoorSRFollowsRBack13
import Derived.Test.YthnldbclbfpojaaGreatDoorSRFollowsRBack28
import Derived.Test.YthnldbclbfpojaaGreatDoorSRFollowsRBack11
import Derived.Test.YthnldbclbfpojaaGreatDoorSRFollowsRBack26
import Derived.Test.YthnldbclbfpojaaGreatDoorSRFollowsRBack18
set_option maxHeartbeats 8000000
set_option maxRecDepth 100000
set_option linter.unusedVariables false
set_option linter.unusedSimpArgs false
section
namespace Go.Proofs.YthnldbclbfpojaaGreatDoor.Pr
open Go.RowKit Go.Proofs.YthnldbclbfpojaaGreatDoorW.PrintWords Go.Proofs.YthnldbclbfpojaaGreatDoorW.PrintLast Go.Proofs.YthnldbclbfpojaaGreatDoorW.PrintMore
def text17.T17 : Bool × List (List Nat × List Nat) := (true, [([], []), ([0], [0]), ([1], [1]), ([2], [2]), ([], []), ([4], [4]), ([5], [5]), ([3, 6, 6], [3, 6]), ([], []), ([8], [8]), ([7, 9], [7, 9]), ([], []), ([11], [11]), ([12], [12]), ([13], [13]), ([], []), ([15], [15]), ([16, 7], [16]), ([17], [17]), ([14, 18, 17], [14, 18]), ([10, 19], [10, 19]), ([20, 19, 0, 1, 2, 3, 4, 5, 6, 7, 8, 9, 10, 11, 12, 13, 14, 15, 16, 17, 18, 19, 20], [20])])
def text17.B17 : List Nat := [0, 1, 3, 7, 0, 16, 48, 127, 0, 256, 1023, 0, 2048, 6144, 14336, 0, 32768, 98559, 229631, 522495, 1048575, 2097151]
theorem text17.tab17 : rtab .any (opsOf Tryz.f84 17) = text17.T17 := by kernel_rfl
theorem text17.bits17 : waitsOk text17.T17.2 text17.B17 = true := by kernel_rfl
theorem text_sign (n : Nd) (s t : ByteArray) (ln : Int) (A : Option Addr) (c : Nat) (w : World) (h5 : n.f0 = 5) (hl : n.f5.length = 2) (hK : KidsC w A c n.f5) (HL : Aside0 (foolscapref08_Line.f 2 n.f4 = some ln))
  (HA : Aside0 (∀ (W : World) (A' : Option Addr) (c' : Nat), Below w.heap.size w W → KidsC W A' c' n.f5[0].f5 → Calls Tryz.prog 110 #[nodeV n.f5[0] A' c', .int .i64 ln] W (TextOut s W)))
  (HB : Aside0 (∀ (W : World) (A' : Option Addr) (c' : Nat), Below w.heap.size w W → KidsC W A' c' n.f5[1].f5 → Calls Tryz.prog 110 #[nodeV n.f5[1] A' c', .int .i64 (IntKind.i64.wrap (ln + 1))] W (TextOut t W)))
  (q1 : s.size + n.f4.size ≤ 9223372036854775807) (q2 : (s ++ n.f4).size + t.size ≤ 9223372036854775807) :
  Calls Tryz.prog 84 #[nodeV n A c] w (TextOut ((s ++ n.f4) ++ t) w) := by
 have h1b : (n.f0 == 1) = false := by simp [h5]
 have h2b : (n.f0 == 2) = false := by simp [h5]
 have h3b : (n.f0 == 3) = false := by simp [h5]
 have h4b : (n.f0 == 4) = false := by simp [h5]
 have h5b : (n.f0 == 5) = true := by simp [h5]
 have q1a := eq_true q1
 have q2a := eq_true q2
 have q1c : (9223372036854775807 < s.size + n.f4.size) = False := eq_false (by omega)
 have q2c : (9223372036854775807 < (s ++ n.f4).size + t.size) = False := eq_false (by omega)
 have q2d : (9223372036854775807 < s.size + n.f4.size + t.size) = False := eq_false (by rw [ByteArray.size_append] at q2; omega)
 obtain ⟨hlc, hC⟩ := hK
 have hmax := hC.2.1
 obtain ⟨ad, A1, c1, e1, hA1, hc1⟩ := kid_at hC 0 (by omega)
 obtain ⟨ad2, A2, c2, e2, hA2, hc2⟩ := kid_at hC 1 (by omega)
 subst e1
 obtain rfl := Option.some.inj e2
 have KA := Aside0.mk hA1
 have KB := Aside0.mk hA2
 have CA := Aside0.mk hc1
 have CB := Aside0.mk hc2
 clear hc1 hc2 hA1 hA2 hC e2 h5
 go_enter Tryz.func84, Tryz.ntmps84
 go_wp2
 refine start_ (n := 22) (S := (fun w' => w'.heap[w.heap.size]? = some (.cells (nodeA n (some ad) c) 33 (0, 0)) ∧ Below w.heap.size w w')) (ds := []) (Array.replicate 22 false) (by kernel_rfl) rfl rfl ⟨blk_drew (newBlk w _), below_drew1 (bel1 w _)⟩ (fun hHeld => ?_)
 refine with_tabW text17.tab17 text17.bits17 (fun HT_ HW_ => ?_)
 refine pz 0 69 HT_ ?_; refine pz 4 73 HT_ ?_; refine pz 8 77 HT_ ?_; refine pz 11 80 HT_ ?_; refine pz 15 84 HT_ ?_
 refine tz 1 70 HT_ HW_ (hr := (by rintro w' s0; have q := fun i => blk_cell s0.1 i; go_simp; with_reducible rfl)) (hS := hHeld) (h := ?_)
 refine pz 2 71 HT_ ?_
 refine tz 3 72 HT_ HW_ (hr := (by rintro w' s0; exact rowRunAt (p := ad.add (0 * 16)) rfl rfl (CA.out.below s0.2) Tryz.underlying33 rfl (by kernel_rfl))) (hS := hHeld) (h := ?_)
 refine tz 5 74 HT_ HW_ (hr := (by rintro w' s0; have q := fun i => blk_cell s0.1 i; go_simp; with_reducible rfl)) (hS := hHeld) (h := ?_)
 refine tz 9 78 HT_ HW_ (hr := (by rintro w' s0; have q := fun i => blk_cell s0.1 i; go_simp; with_reducible rfl)) (hS := hHeld) (h := ?_)
 refine tz 12 81 HT_ HW_ (hr := (by rintro w' s0; have q := fun i => blk_cell s0.1 i; go_simp; with_reducible rfl)) (hS := hHeld) (h := ?_)
 refine pz 13 82 HT_ ?_
 refine tz 14 83 HT_ HW_ (hr := (by rintro w' s0; exact rowRunAt (p := ad.add (1 * 16)) rfl rfl (CB.out.below s0.2) Tryz.underlying33 rfl (by kernel_rfl))) (hS := hHeld) (h := ?_)
 refine tz 16 85 HT_ HW_ (hr := (by rintro w' s0; have q := fun i => blk_cell s0.1 i; go_simp; with_reducible rfl)) (hS := hHeld) (h := ?_)
 refine oneI 6 (some 75) HT_ rfl rfl (by kernel_rfl) (by decide) (fun K hK => ?_)
 refine goes_ Tryz.func67 (by kernel_rfl) rfl #[.string n.f4] (by (try simp only [List.map_toArray, List.map_cons, List.map_nil]); first | done | rfl) rfl rfl (by first | rfl | ((try simp only [List.map_toArray, List.map_cons, List.map_nil]); first | done | rfl)) ?_
 with_reducible refine (foolscapref08_Line.calls _ _ _ _ HL.out).mono ?_
 rintro e w1 ⟨rfl, nd, rfl⟩
 refine ⟨_, rfl, ?_⟩
 refine hK.out _ _ ⟨blk_drewN hHeld.1 _, pw_below_drewN hHeld.2 _⟩ (fun hHeld => ?_)
 clear hK K
 refine nz 75 ?_
 refine oneI 7 (some 76) HT_ rfl rfl (by kernel_rfl) (by decide) (fun K hK => ?_)
 refine goes_ Tryz.func110 (by kernel_rfl) rfl #[nodeV n.f5[0] A1 c1, .int .i64 ln] (by (try simp only [List.map_toArray, List.map_cons, List.map_nil]); first | done | rfl) rfl rfl (by first | rfl | ((try simp only [List.map_toArray, List.map_cons, List.map_nil]); first | done | rfl)) ?_
 with_reducible refine (HA.out _ _ _ hHeld.2 (KA.out.below hHeld.2)).mono ?_
 rintro e w2 ⟨rfl, hb⟩
 refine ⟨_, rfl, ?_⟩
 refine hK.out _ _ ⟨blk_below hHeld.1 hb, below_step hHeld.2 hb⟩ (fun hHeld => ?_)
 clear hK K
 refine nz 76 ?_
 refine pz 10 79 HT_ ?_
 refine oneI 17 (some 86) HT_ rfl rfl (by kernel_rfl) (by decide) (fun K hK => ?_)
 refine goes_ Tryz.func67 (by kernel_rfl) rfl #[.string n.f4] (by (try simp only [List.map_toArray, List.map_cons, List.map_nil]); first | done | rfl) rfl rfl (by first | rfl | ((try simp only [List.map_toArray, List.map_cons, List.map_nil]); first | done | rfl)) ?_
 with_reducible refine (foolscapref08_Line.calls _ _ _ _ HL.out).mono ?_
 rintro e w3 ⟨rfl, nd3, rfl⟩
 refine ⟨_, rfl, ?_⟩
 refine hK.out _ _ ⟨blk_drewN hHeld.1 _, pw_below_drewN hHeld.2 _⟩ (fun hHeld => ?_)
 clear hK K
 refine nz 86 ?_
 refine pz 18 87 HT_ ?_
 refine oneI 19 (some 88) HT_ rfl rfl (by kernel_rfl) (by decide) (fun K hK => ?_)
 refine goes_ Tryz.func110 (by kernel_rfl) rfl #[nodeV n.f5[1] A2 c2, .int .i64 (IntKind.i64.wrap (ln + 1))] (by (try simp only [List.map_toArray, List.map_cons, List.map_nil]); first | done | rfl) rfl rfl (by first | rfl | ((try simp only [List.map_toArray, List.map_cons, List.map_nil]); first | done | rfl)) ?_
 with_reducible refine (HB.out _ _ _ hHeld.2 (KB.out.below hHeld.2)).mono ?_
 rintro e w4 ⟨rfl, hb4⟩
 refine ⟨_, rfl, ?_⟩
 refine hK.out _ _ ⟨blk_below hHeld.1 hb4, below_step hHeld.2 hb4⟩ (fun hHeld => ?_)
 clear hK K
 refine nz 88 ?_
 refine pz 20 89 HT_ ?_; refine pz 21 2 HT_ ?_
 refine done_ (done_of HT_.out (by kernel_rfl)) ?_
 go_wp2
 go_ret
 exact ⟨rfl, hHeld.2⟩
theorem text_minus (n : Nd) (s : ByteArray) (A : Option Addr) (c : Nat) (w : World) (h4 : n.f0 = 4) (hl : n.f5.length = 1) (hK : KidsC w A c n.f5)
  (HA : Aside0 (∀ (W : World) (A' : Option Addr) (c' : Nat), Below w.heap.size w W → KidsC W A' c' n.f5[0].f5 → Calls Tryz.prog 110 #[nodeV n.f5[0] A' c', .int .i64 4] W (TextOut s W)))
  (q1 : 1 + s.size ≤ 9223372036854775807) :
  Calls Tryz.prog 84 #[nodeV n A c] w (TextOut ((⟨#[45]⟩ : ByteArray) ++ s) w) := by
 have h1b : (n.f0 == 1) = false := by simp [h4]
 have h2b : (n.f0 == 2) = false := by simp [h4]
 have h3b : (n.f0 == 3) = false := by simp [h4]
 have h4b : (n.f0 == 4) = true := by simp [h4]
 have q1a := eq_true q1
 have q1c : (9223372036854775807 < 1 + s.size) = False := eq_false (by omega)
 obtain ⟨hlc, hC⟩ := hK
 have hmax := hC.2.1
 obtain ⟨ad, A1, c1, e1, hA1, hc1⟩ := kid_at hC 0 (by omega)
 subst e1
 have KA := Aside0.mk hA1
 have CA := Aside0.mk hc1
 clear hc1 hA1 hC h4
 go_enter Tryz.func84, Tryz.ntmps84
 go_wp2_with (first
  | ((with_reducible refine gate_dst (N := 64) rfl ?_); refine wpLdAt 64 rfl rfl 33 (.tmp 63) rfl (ad.add (0 * 16)) rfl _ _ (CA.out.below (bel1 w _)) Tryz.underlying33 rfl (by kernel_rfl) ?_)
  | (go_at_call 110; (with_reducible refine (HA.out _ _ _ (bel1 w _) (KA.out.below (bel1 w _))).mono ?_); rintro e w2 ⟨rfl, hb⟩; have HB2 := Aside0.mk (below_step (bel1 w _) hb); clear hb))
 go_ret
 exact ⟨rfl, HB2.out⟩
def joinS (T : Nd → Option ByteArray) : List Nd → Bool → ByteArray → Option ByteArray
 | [], _, s => some s
 | x :: r, b, s => (if b = true then some s else catS s ⟨#[44]⟩).bind fun s1 => (T x).bind fun t => (catS s1 t).bind fun s2 => joinS T r false s2
theorem opt_bind {α β : Type} {x : Option α} {f : α → Option β} {b : β} (h : x.bind f = some b) : ∃ a, x = some a ∧ f a = some b := by
 cases x with
 | none => cases h
 | some a => exact ⟨a, rfl, h⟩
theorem text_named (T : Nd → Option ByteArray) (n : Nd) (r s0 : ByteArray) (A : Option Addr) (c : Nat) (w : World) (h1 : ¬n.f0 = 1) (h2 : ¬n.f0 = 2) (h3 : ¬n.f0 = 3) (h4 : ¬n.f0 = 4) (h5 : ¬n.f0 = 5) (hK : KidsC w A c n.f5)
  (HT : Aside0 (∀ (x : Nd) (s : ByteArray) (W : World) (A' : Option Addr) (c' : Nat), T x = some s → KidsC W A' c' x.f5 → Calls Tryz.prog 84 #[nodeV x A' c'] W (TextOut s W)))
  (q1 : n.f4.size + 1 ≤ 9223372036854775807) (hJ : Aside0 (joinS T n.f5 true (n.f4 ++ (⟨#[40]⟩ : ByteArray)) = some r)) (q2 : r.size + 1 ≤ 9223372036854775807) :
  Calls Tryz.prog 84 #[nodeV n A c] w (TextOut (r ++ (⟨#[41]⟩ : ByteArray)) w) := by
 have h1b : (n.f0 == 1) = false := by simp [h1]
 have h2b : (n.f0 == 2) = false := by simp [h2]
 have h3b : (n.f0 == 3) = false := by simp [h3]
 have h4b : (n.f0 == 4) = false := by simp [h4]
 have h5b : (n.f0 == 5) = false := by simp [h5]
 have q1a := eq_true q1
 have q1c : (9223372036854775807 < n.f4.size + 1) = False := eq_false (by omega)
 have q2a := eq_true q2
 have q2c : (9223372036854775807 < r.size + 1) = False := eq_false (by omega)
 obtain ⟨hlc, hC0⟩ := hK
 have hmax := hC0.2.1
 have HC := Aside0.mk hC0
 clear hC0 h1 h2 h3 h4 h5
 go_enter Tryz.func84, Tryz.ntmps84
 go_wp2
 go_loopw [11, 12] (fun v i wr => ∃ (q : Nat) (s : ByteArray), q ≤ n.f5.length ∧ i = .int .i64 q ∧ v = .string s ∧ Aside0 (joinS T (n.f5.drop q) (decide (q = 0)) s = some r) ∧ Aside0 (Below w.heap.size w wr) ∧ Aside0 (wr.heap[w.heap.size]? = some (.cells (nodeA n A c) 33 (0, 0)))) (fun _ i _ => n.f5.length - (intOf i).toNat)
 case atStart => exact ⟨0, _, by omega, rfl, rfl, hJ, ⟨bel1 w _⟩, ⟨newBlk w _⟩⟩
 case round =>
  clear hJ
  obtain ⟨q, s, hk, rfl, rfl, HX, HB, HBk⟩ := hrel
  have hc15 : wr.cell? ⟨w.heap.size, 15, none⟩ = some (.slice A n.f5.length c) := (blk_cell HBk.out 15).trans rfl
  by_cases hkl : q < n.f5.length
  ·obtain ⟨ad, A1, c1, e1, hA1, hc1⟩ := kid_at (Kd.C_below HC.out HB.out) q hkl
   subst e1
   have KA := Aside0.mk hA1
   have CA := Aside0.mk hc1
   have hX := HX.out
   rw [List.drop_eq_getElem_cons hkl, joinS] at hX
   obtain ⟨s1, e1, hX⟩ := opt_bind hX
   obtain ⟨t, e2, hX⟩ := opt_bind hX
   obtain ⟨s2, e3, hX⟩ := opt_bind hX
   have HCk := Aside0.mk (HT.out n.f5[q] t wr A1 c1 e2 KA.out)
   obtain ⟨rfl, p3⟩ := catS_some e3
   have p3a := eq_true p3
   have HXn := Aside0.mk hX
   clear hX hA1 hc1 e2 e3 HX
   by_cases hq : q = 0
   ·subst hq
    simp only [decide_true, if_true] at e1
    obtain rfl := Option.some.inj e1
    have p3c : (9223372036854775807 < s.size + t.size) = False := eq_false (by omega)
    go_wp2_with (first
     | ((with_reducible refine gate_dst (N := 109) rfl ?_); refine wpLdAt 109 rfl rfl 33 (.tmp 108) rfl (ad.add (0 * 16)) rfl _ _ CA.out Tryz.underlying33 rfl (by kernel_rfl) ?_)
     | (go_at_call 84; (with_reducible refine HCk.out.mono ?_); rintro e w1 ⟨rfl, hb⟩; have HB1 := Aside0.mk hb; clear hb))
    refine ⟨⟨0 + 1, _, by omega, by go_num, rfl, HXn, ⟨below_step HB.out HB1.out⟩, ⟨blk_below HBk.out HB1.out⟩⟩, ?_⟩
    simp [intOf]; omega
   ·have hqd : decide (q = 0) = false := decide_eq_false hq
    rw [hqd, if_neg (by simp)] at e1
    obtain ⟨rfl, p1⟩ := catS_some e1
    have hqp : (0 < (q : Int)) = True := eq_true (by omega)
    have p1a := eq_true p1
    have p1c : (9223372036854775807 < s.size + 1) = False := eq_false (by have : s.size + 1 ≤ 9223372036854775807 := p1; omega)
    have p3c : (9223372036854775807 < s.size + 1 + t.size) = False := eq_false (by rw [ByteArray.size_append] at p3; have : s.size + 1 + t.size ≤ 9223372036854775807 := p3; omega)
    have p3d : (9223372036854775807 < (s ++ (⟨#[44]⟩ : ByteArray)).size + t.size) = False := eq_false (by omega)
    go_wp2_with (first
     | ((with_reducible refine gate_dst (N := 109) rfl ?_); refine wpLdAt 109 rfl rfl 33 (.tmp 108) rfl (ad.add (q * 16)) rfl _ _ CA.out Tryz.underlying33 rfl (by kernel_rfl) ?_)
     | (go_at_call 84; (with_reducible refine HCk.out.mono ?_); rintro e w1 ⟨rfl, hb⟩; have HB1 := Aside0.mk hb; clear hb))
    refine ⟨⟨q + 1, _, by omega, by go_num, rfl, HXn, ⟨below_step HB.out HB1.out⟩, ⟨blk_below HBk.out HB1.out⟩⟩, ?_⟩
    simp [intOf]; omega
  ·have hX := HX.out
   rw [List.drop_of_length_le (by omega), joinS] at hX
   obtain rfl := Option.some.inj hX
   clear HX
   go_wp2
   go_ret
   exact ⟨rfl, HB.out⟩
def withinS (T : Nd → Option ByteArray) (least : Int) (n : Nd) : Option ByteArray :=
 if levelI n < least then (T n).bind fun s => if s.size ≤ 9223372036854775800 then some (((⟨#[40]⟩ : ByteArray) ++ s) ++ (⟨#[41]⟩ : ByteArray)) else none else T n
def textS : Nat → Nd → Option ByteArray
 | 0, _ => none
 | d + 1, n =>
  if n.f0 = 1 then (if n.f1.f0 = 2 then foolscapref08_quoted.f 4000 n.f1.f2 else (foolscapref04_Show.f 4000 n.f1.f0 n.f1.f1 n.f1.f2 n.f1.f3 n.f1.f4).map Prod.fst)
  else if n.f0 = 2 then (foolscapref05_Print.f 4000 n.f2.f0.f0 n.f2.f0.f1 n.f2.f1 n.f2.f2).map Prod.fst
  else if n.f0 = 3 then (foolscapref05_Print.f 4000 n.f2.f0.f0 n.f2.f0.f1 n.f2.f1 n.f2.f2).bind fun p => (foolscapref05_Print.f 4000 n.f3.f0.f0 n.f3.f0.f1 n.f3.f1 n.f3.f2).bind fun q => (catS p.1 ⟨#[58]⟩).bind fun s => catS s q.1
  else if n.f0 = 4 then (if h : n.f5.length = 1 then (withinS (textS d) 4 n.f5[0]).bind fun s => catS ⟨#[45]⟩ s else none)
  else if n.f0 = 5 then (if h : n.f5.length = 2 then (withinS (textS d) (rLN n.f4) n.f5[0]).bind fun s => (catS s n.f4).bind fun s1 => (withinS (textS d) (IntKind.i64.wrap (rLN n.f4 + 1)) n.f5[1]).bind fun t => catS s1 t else none)
  else (catS n.f4 ⟨#[40]⟩).bind fun s => (joinS (textS d) n.f5 true s).bind fun r => catS r ⟨#[41]⟩
theorem opt_map {α β : Type} {x : Option α} {f : α → β} {b : β} (h : x.map f = some b) : ∃ a, x = some a ∧ f a = b := by
 cases x with
 | none => cases h
 | some a => exact ⟨a, rfl, Option.some.inj h⟩
theorem within_calls (T : Nd → Option ByteArray) (HT : ∀ (x : Nd) (s : ByteArray) (W : World) (A' : Option Addr) (c' : Nat), T x = some s → KidsC W A' c' x.f5 → Calls Tryz.prog 84 #[nodeV x A' c'] W (TextOut s W)) (n : Nd) (least : Int) (r : ByteArray) (A : Option Addr) (c : Nat) (w : World) (hr : withinS T least n = some r) (hK : KidsC w A c n.f5) :
  Calls Tryz.prog 110 #[nodeV n A c, .int .i64 least] w (TextOut r w) := by
 unfold withinS at hr
 by_cases h : levelI n < least
 ·rw [if_pos h] at hr
  obtain ⟨s, e1, hr⟩ := opt_bind hr
  by_cases hs : s.size ≤ 9223372036854775800
  ·rw [if_pos hs] at hr
   obtain rfl := Option.some.inj hr
   exact within_wrap n least s A c w h hs ⟨fun W hW => HT n s W A c e1 (hK.below hW)⟩
  ·rw [if_neg hs] at hr; cases hr
 ·rw [if_neg h] at hr
  exact within_bare n least r A c w h ⟨fun W hW => HT n r W A c hr (hK.below hW)⟩
theorem text_calls (d : Nat) : ∀ (n : Nd) (s : ByteArray) (w : World) (A : Option Addr) (c : Nat) (h : textS d n = some s) (hK : KidsC w A c n.f5),
  Calls Tryz.prog 84 #[nodeV n A c] w (TextOut s w) := by
 induction d with
 | zero => intro n s w A c h; cases h
 | succ d ih =>
  intro n s w A c h hK
  rw [textS] at h
  by_cases h1 : n.f0 = 1
  ·rw [if_pos h1] at h
   by_cases h2 : n.f1.f0 = 2
   ·rw [if_pos h2] at h
    exact text_quoted 4000 n s A c w h1 h2 ⟨h⟩
   ·rw [if_neg h2] at h
    obtain ⟨⟨p, i⟩, e, rfl⟩ := opt_map h
    exact text_value 4000 n p i A c w h1 h2 ⟨e⟩
  ·rw [if_neg h1] at h
   by_cases h2 : n.f0 = 2
   ·rw [if_pos h2] at h
    obtain ⟨⟨p, i⟩, e, rfl⟩ := opt_map h
    exact text_cell 4000 n p i A c w h2 ⟨e⟩
   ·rw [if_neg h2] at h
    by_cases h3 : n.f0 = 3
    ·rw [if_pos h3] at h
     obtain ⟨⟨p, i⟩, e1, h⟩ := opt_bind h
     obtain ⟨⟨q, j⟩, e2, h⟩ := opt_bind h
     obtain ⟨t, e3, h⟩ := opt_bind h
     obtain ⟨rfl, k1⟩ := catS_some e3
     obtain ⟨rfl, k2⟩ := catS_some h
     exact text_range 4000 n p q i j A c w h3 ⟨e1⟩ ⟨e2⟩ k1 k2
    ·rw [if_neg h3] at h
     by_cases h4 : n.f0 = 4
     ·rw [if_pos h4] at h
      by_cases hl : n.f5.length = 1
      ·rw [dif_pos hl] at h
       obtain ⟨t, e1, h⟩ := opt_bind h
       obtain ⟨rfl, k1⟩ := catS_some h
       exact text_minus n t A c w h4 hl hK ⟨fun W A' c' hW hk => within_calls (textS d) ih _ 4 t A' c' W e1 hk⟩ k1
      ·rw [dif_neg hl] at h; cases h
     ·rw [if_neg h4] at h
      by_cases h5 : n.f0 = 5
      ·rw [if_pos h5] at h
       by_cases hl : n.f5.length = 2
       ·rw [dif_pos hl] at h
        obtain ⟨t, e1, h⟩ := opt_bind h
        obtain ⟨s1, e2, h⟩ := opt_bind h
        obtain ⟨q, e3, h⟩ := opt_bind h
        obtain ⟨rfl, k1⟩ := catS_some e2
        obtain ⟨rfl, k2⟩ := catS_some h
        exact text_sign n t q (rLN n.f4) A c w h5 hl hK ⟨rLN_eq n.f4⟩ ⟨fun W A' c' hW hk => within_calls (textS d) ih _ _ t A' c' W e1 hk⟩ ⟨fun W A' c' hW hk => within_calls (textS d) ih _ _ q A' c' W e3 hk⟩ k1 k2
       ·rw [dif_neg hl] at h; cases h
      ·rw [if_neg h5] at h
       obtain ⟨s1, e1, h⟩ := opt_bind h
       obtain ⟨rfl, k1⟩ := catS_some e1
       clear e1
       obtain ⟨q, e2, h⟩ := opt_bind h
       obtain ⟨rfl, k2⟩ := catS_some h
       exact text_named (textS d) n q ByteArray.empty A c w h1 h2 h3 h4 h5 hK ⟨ih⟩ k1 ⟨e2⟩ k2
mutual
/-- at least how many bytes a text has. -/
def longS : Nd → Int
 | ⟨_, v, _, _, s, l⟩ => longL l (wrap64 (wrap64 (1 + (v.f2.size : Int)) + (s.size : Int)))
def longL : List Nd → Int → Int
 | [], s => s
 | x :: r, s => if s ≤ 1024 then longL r (wrap64 (s + longS x)) else s
end
theorem longS_eq (n : Nd) : longS n = longL n.f5 (wrap64 (wrap64 (1 + (n.f1.f2.size : Int)) + (n.f4.size : Int))) := by cases n; rw [longS]
theorem long_calls (d : Nat) : ∀ (n : Nd) (A : Option Addr) (c : Nat) (w : World) (hd : szN n < d) (hK : KidsC w A c n.f5),
  Calls Tryz.prog 83 #[nodeV n A c] w fun e w' => e = .returned (.int .i64 (longS n)) ∧ Below w.heap.size w w' := by
 induction d with
 | zero => intro n A c w hd; omega
 | succ d ih =>
  intro n A c w hd hK
  obtain ⟨hlc, hC⟩ := hK
  have hmax := hC.2.1
  have HC := Aside0.mk hC
  have HI := Aside0.mk ih
  have HD := Aside0.mk hd
  clear hC ih hd
  have HR := Aside0.mk (longS_eq n)
  generalize longS n = r at HR ⊢
  go_enter Tryz.func83, Tryz.ntmps83
  go_wp2
  go_loopw [3, 4] (fun v i wr => ∃ (q : Nat) (s : Int), q ≤ n.f5.length ∧ i = .int .i64 q ∧ v = .int .i64 s ∧ Aside0 (r = longL (n.f5.drop q) s) ∧ Aside0 (Below w.heap.size w wr) ∧ Aside0 (wr.heap[w.heap.size]? = some (.cells (nodeA n A c) 33 (0, 0)))) (fun _ i _ => n.f5.length - (intOf i).toNat)
  case atStart => exact ⟨0, _, by omega, rfl, rfl, HR, ⟨bel1 w _⟩, ⟨newBlk w _⟩⟩
  case round =>
   clear HR
   obtain ⟨q, s, hk, rfl, rfl, HX, HB, HBk⟩ := hrel
   have hc15 : wr.cell? ⟨w.heap.size, 15, none⟩ = some (.slice A n.f5.length c) := (blk_cell HBk.out 15).trans rfl
   by_cases hkl : q < n.f5.length
   ·by_cases hs : s ≤ 1024
    ·obtain ⟨ad, A1, c1, e1, hA1, hc1⟩ := kid_at (Kd.C_below HC.out HB.out) q hkl
     subst e1
     have KA := Aside0.mk hA1
     have CA := Aside0.mk hc1
     clear hA1 hc1
     have HM := Aside0.mk (List.getElem_mem hkl)
     have HN := Aside0.mk (show longL (n.f5.drop q) s = longL (n.f5.drop (q + 1)) (wrap64 (s + longS n.f5[q])) by rw [List.drop_eq_getElem_cons hkl, longL, if_pos hs])
     have HCk := Aside0.mk (HI.out n.f5[q] A1 c1 wr (by have := kid_lt HM.out; have := HD.out; omega) KA.out)
     go_wp2_with (first
      | ((with_reducible refine gate_dst (N := 30) rfl ?_); refine wpLdAt 30 rfl rfl 33 (.tmp 29) rfl (ad.add (q * 16)) rfl _ _ CA.out Tryz.underlying33 rfl (by kernel_rfl) ?_)
      | (go_at_call 83; (with_reducible refine HCk.out.mono ?_); rintro e w1 ⟨rfl, hb⟩; have HB1 := Aside0.mk hb; clear hb))
     refine ⟨⟨q + 1, wrap64 (s + longS n.f5[q]), by omega, by go_num, rfl, ⟨HX.out.trans HN.out⟩, ⟨below_step HB.out HB1.out⟩, ⟨blk_below HBk.out HB1.out⟩⟩, ?_⟩
     simp [intOf]; omega
    ·have HN := Aside0.mk (show longL (n.f5.drop q) s = s by rw [List.drop_eq_getElem_cons hkl, longL, if_neg hs])
     go_wp2
     go_ret
     exact ⟨ret_i (HX.out.trans HN.out).symm, HB.out⟩
   ·have HN := Aside0.mk (show longL (n.f5.drop q) s = s by rw [List.drop_of_length_le (by omega), longL])
    go_wp2
    go_ret
    exact ⟨ret_i (HX.out.trans HN.out).symm, HB.out⟩
theorem print_calls (d : Nat) (n : Nd) (s : ByteArray) (A : Option Addr) (c : Nat) (w : World) (hK : KidsC w A c n.f5) (h0 : checkI n = 0) (h1 : longS n ≤ 2048) (h2 : textS d n = some s) (h3 : (s.size : Int) ≤ 1023) :
  Calls Tryz.prog 52 #[nodeV n A c] w fun e w' => e = .returned (.tuple #[.string s, .int .i64 0]) ∧ Below w.heap.size w w' := by
 have HK := Aside0.mk hK
 have HC := Aside0.mk fun (W : World) (h : Below w.heap.size w W) => Check_calls n A c W (hK.below h)
 have HL := Aside0.mk fun (W : World) (h : Below w.heap.size w W) => long_calls (szN n + 1) n A c W (Nat.lt_succ_self _) (hK.below h)
 have HT := Aside0.mk fun (W : World) (h : Below w.heap.size w W) => text_calls d n s W A c h2 (hK.below h)
 rw [h0] at HC
 generalize longS n = ln at HL h1
 have h1b : (2048 < ln) = False := eq_false (by omega)
 have h3b : (1023 < (s.size : Int)) = False := eq_false (by omega)
 have h3c : (1023 < s.size) = False := eq_false (by omega)
 clear hK h0 h2
 have B0 := Aside0.mk (newBlk w (.cells (nodeA n A c) 33))
 go_enter Tryz.func52, Tryz.ntmps52
 go_wp2_with (first
  | (go_at_call 15; (with_reducible refine (HC.out _ (bel1 w _)).mono ?_); rintro e w1 ⟨rfl, hb⟩; have HB1 := Aside0.mk (below_step (bel1 w _) hb); have B1 := Aside0.mk (blk_below B0.out hb); have hc := fun i => blk_cell B1.out i; clear hb)
  | (go_at_call 83; (with_reducible refine (HL.out _ HB1.out).mono ?_); clear hc; rintro e w2 ⟨rfl, hb⟩; have HB2 := Aside0.mk (below_step HB1.out hb); have B2 := Aside0.mk (blk_below B1.out hb); have hc := fun i => blk_cell B2.out i; clear hb)
  | (go_at_call 84; (with_reducible refine (HT.out _ HB2.out).mono ?_); clear hc; rintro e w3 ⟨rfl, hb⟩; have HB3 := Aside0.mk (below_step HB2.out hb); clear hb))
 refine bodyPost_ret (results_tmp2 rfl _ _ _) rfl ?_
 exact ⟨rfl, HB3.out⟩
theorem lawtext_calls (d : Nat) (n : Nd) (s : ByteArray) (A : Option Addr) (c : Nat) (w : World) (hK : KidsC w A c n.f5) (h0 : checkI n = 0) (h1 : longS n ≤ 2048) (h2 : textS d n = some s) (h3 : (s.size : Int) ≤ 1023) :
  Calls Tryz.prog 29 #[nodeV n A c] w (TextOut s w) := by
 have HP := Aside0.mk fun (W : World) (h : Below w.heap.size w W) => print_calls d n s A c W (hK.below h) h0 h1 h2 h3
 clear hK h0 h1 h2 h3
 go_enter Tryz.func29, Tryz.ntmps29
 go_wp2_with (go_at_call 52; (with_reducible refine (HP.out _ (bel1 w _)).mono ?_); rintro e w1 ⟨rfl, hb⟩; have HB1 := Aside0.mk (below_step (bel1 w _) hb); clear hb)
 go_ret
 exact ⟨rfl, HB1.out⟩
end Go.Proofs.YthnldbclbfpojaaGreatDoor.Pr
end
