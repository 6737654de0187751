/-
  Lemmas for the law RFollowsRBack.
-/
import Derived.Test.YthnldbclbfpojaaGreatDoorSRFollowsRBack13
import Derived.Test.YthnldbclbfpojaaGreatDoorSRFollowsRBack15
import Derived.Test.YthnldbclbfpojaaGreatDoorSRFollowsRBack16
import Derived.Test.YthnldbclbfpojaaGreatDoorSRFollowsRBack17
import Derived.Test.YthnldbclbfpojaaGreatDoorSRFollowsRBack11
import Derived.Deep.RegionHeld3
set_option maxHeartbeats 8000000
set_option maxRecDepth 100000
set_option linter.unusedVariables false
set_option linter.unusedSimpArgs false
section
namespace Go.Proofs.YthnldbclbfpojaaGreatDoor.Pr
open Go.RowKit Go.Proofs.YthnldbclbfpojaaGreatDoorW.PrintWords Go.Proofs.YthnldbclbfpojaaGreatDoorW.PrintLast Go.Proofs.YthnldbclbfpojaaGreatDoorW.PrintMore
def refRight.T20 : Bool × List (List Nat × List Nat) := (true, [([], []), ([0], [0]), ([1], [1]), ([2, 2], [2]), ([3], [3]), ([4, 3], [3, 4]), ([5, 3, 3], [3, 5]), ([3], [3]), ([7, 3], [3, 7]), ([6, 8, 3], [3, 6, 8]), ([3, 9], [3, 9]), ([10, 6, 0, 1, 2, 3, 4, 5, 6, 7, 8, 9, 10], [10])])
def refRight.B20 : List Nat := [0, 1, 3, 7, 15, 31, 63, 15, 143, 511, 1023, 2047]
theorem refRight.tab20 : rtab .any (opsOf Tryz.f36 20) = refRight.T20 := by kernel_rfl
theorem refRight.bits20 : waitsOk refRight.T20.2 refRight.B20 = true := by kernel_rfl
mutual
/-- a test of a node and of all in it. -/
def allS (C : Nd → Bool) : Nd → Bool
 | ⟨a, b, c, d, e, l⟩ => C ⟨a, b, c, d, e, l⟩ && allL C l
def allL (C : Nd → Bool) : List Nd → Bool
 | [] => true
 | x :: r => allS C x && allL C r
end
theorem allS_eq (C : Nd → Bool) (n : Nd) : allS C n = (C n && allL C n.f5) := by cases n; rw [allS]
def placeB (r c : Int) : Bool := decide (1 ≤ r) && (decide (r ≤ 1048576) && (decide (1 ≤ c) && decide (c ≤ 16384)))
theorem ref_Place_B (r c : Int) : foolscapref05_Place.f r c = some (placeB r c) := by
 unfold foolscapref05_Place.f placeB
 by_cases h1 : 1 ≤ r
 ·by_cases h2 : r ≤ 1048576
  ·by_cases h3 : 1 ≤ c
   ·rw [if_pos (by omega), if_pos h2, if_pos (by omega)]; simp [h1, h2, h3]
   ·rw [if_pos (by omega), if_pos h2, if_neg (by omega)]; simp [h3]
  ·rw [if_pos (by omega), if_neg h2]; simp [h2]
 ·rw [if_neg (by omega)]; simp [h1]
def kindB (V : Nd → Bool) (LN : ByteArray → Int) (NM : ByteArray → Bool) (FO : ByteArray → ByteArray) (n : Nd) : Bool :=
 if n.f0 = 1 then decide (n.f5.length = 0) && (V n && ((n.f1.f0 != 0) && decide (0 ≤ n.f1.f1)))
 else if n.f0 = 2 then decide (n.f5.length = 0) && placeB n.f2.f0.f0 n.f2.f0.f1
 else if n.f0 = 3 then decide (n.f5.length = 0) && (placeB n.f2.f0.f0 n.f2.f0.f1 && placeB n.f3.f0.f0 n.f3.f0.f1)
 else if n.f0 = 4 then decide (n.f5.length = 1)
 else if n.f0 = 5 then decide (n.f5.length = 2) && decide (0 ≤ LN n.f4)
 else if n.f0 = 6 then NM n.f4 && ((FO n.f4).toList == n.f4.toList)
 else false
theorem Right_calls (V : Nd → Bool) (LN : ByteArray → Int) (NM : ByteArray → Bool) (FO : ByteArray → ByteArray) (kL kN : Nat)
  (hV : ∀ n : Nd, foolscapref04_Right.f n.f1.f0 n.f1.f1 n.f1.f2 n.f1.f3 n.f1.f4 = some (V n)) (hL : ∀ s, foolscapref08_Line.f kL s = some (LN s)) (hN : ∀ s, foolscapref07_Name.f kN s = some (NM s)) (hF : ∀ s, NM s = true → foolscapref04_Fold.f s = some (FO s)) (d : Nat) :
  ∀ (n : Nd) (A : Option Addr) (c : Nat) (w : World) (hd : szN n < d) (hK : KidsC w A c n.f5),
  Calls Tryz.prog 36 #[nodeV n A c] w fun e w' => e = .returned (.bool (allS (fun n => plainB n && kindB V LN NM FO n) n)) ∧ Below w.heap.size w w' := by
 have HV := Aside0.mk hV
 have HLn := Aside0.mk hL
 have HNm := Aside0.mk hN
 have HFo := Aside0.mk hF
 clear hV hL hN hF
 induction d with
 | zero => intro n A c w hd; omega
 | succ d ih =>
  intro n A c w hd hK
  obtain ⟨hlc, hC⟩ := hK
  have hmax := hC.2.1
  have HC := Aside0.mk hC
  clear hC
  have HI := Aside0.mk ih
  clear ih
  have HD := Aside0.mk hd
  clear hd
  generalize hr : allS (fun n => plainB n && kindB V LN NM FO n) n = r
  rw [allS_eq] at hr
  have HR := Aside0.mk hr
  clear hr
  have HPl := Aside0.mk fun w => plain_calls n A c w
  cases hp : plainB n with
  | false =>
   rw [hp] at HPl
   go_enter Tryz.func36, Tryz.ntmps36
   go_wp2_with (go_at_call 64; (with_reducible refine (HPl.out _).mono ?_); rintro e w1 ⟨rfl, hb⟩; have HB1 := Aside0.mk hb; clear hb)
   go_ret
   exact ⟨ret_b (by rw [← HR.out]; simp [hp]), below_step (below_alloc (Below.refl _ _) _) HB1.out⟩
  | true =>
   rw [hp] at HPl
   have HR2 := Aside0.mk (show (kindB V LN NM FO n && allL (fun n => plainB n && kindB V LN NM FO n) n.f5) = r by rw [← HR.out]; simp [hp])
   clear hp HR
   generalize hCC : (fun n => plainB n && kindB V LN NM FO n) = CC at HI HR2
   have HCC := Aside0.mk hCC
   clear hCC
   go_enter Tryz.func36, Tryz.ntmps36
   go_wp2_with (go_at_call 64; (with_reducible refine (HPl.out _).mono ?_); rintro e w1 ⟨rfl, hb⟩; have HBk1 := Aside0.mk (blk_below (show (w.alloc (.cells (nodeA n A c) 33)).heap[w.heap.size]? = some (.cells (nodeA n A c) 33 (0, 0)) by show (w.heap.push _)[w.heap.size]? = _; simp) hb); have HB1 := Aside0.mk (below_step (below_alloc (Below.refl _ _) _) hb); clear hb)
   go_loopw [3] (fun i wr => ∃ (k : Nat), k ≤ n.f5.length ∧ i = .int .i64 k ∧ Aside0 ((kindB V LN NM FO n && allL CC (n.f5.drop k)) = r) ∧ Aside0 (Below w.heap.size w wr) ∧ Aside0 (wr.heap[w.heap.size]? = some (.cells (nodeA n A c) 33 (0, 0)))) (fun i _ => n.f5.length - (intOf i).toNat)
   case atStart => exact ⟨0, by omega, rfl, HR2, HB1, HBk1⟩
   case round =>
    clear HBk1 HB1 HPl HR2
    obtain ⟨k, hk, rfl, HX, HB, HBk⟩ := hrel
    have hc15 : wr.cell? ⟨w.heap.size, 15, none⟩ = some (.slice A n.f5.length c) := (blk_cell HBk.out 15).trans rfl
    by_cases hkl : k < n.f5.length
    ·obtain ⟨ad, A', c', e, hK', g0, g1, g2, g3, g4, g5, g6, g7, g8, g9, g10, g11, g12, g13, g14, g15⟩ := at_kid (Kd.C_below HC.out HB.out) k hkl
     subst e
     have HK' := Aside0.mk hK'
     clear hK'
     have HM := Aside0.mk (List.getElem_mem hkl)
     have HN := Aside0.mk (show allL CC (n.f5.drop k) = (allS CC n.f5[k] && allL CC (n.f5.drop (k + 1))) by rw [List.drop_eq_getElem_cons hkl, allL])
     have HCk := Aside0.mk (HI.out n.f5[k] A' c' wr (by have := kid_lt HM.out; have := HD.out; omega) HK'.out)
     cases hq : allS CC n.f5[k] with
     | false =>
      rw [hq] at HCk HN
      have HX2 := Aside0.mk (show false = r by rw [← HX.out, HN.out]; simp)
      clear hq
      go_wp2_with (go_at_call 36; (with_reducible refine HCk.out.mono ?_); rintro e w1 ⟨rfl, hb⟩; have HB1 := Aside0.mk hb; clear hb)
      go_ret
      exact ⟨ret_b HX2.out, below_step HB.out HB1.out⟩
     | true =>
      rw [hq] at HCk HN
      clear hq
      go_wp2_with (go_at_call 36; (with_reducible refine HCk.out.mono ?_); rintro e w1 ⟨rfl, hb⟩; have HB1 := Aside0.mk hb; clear hb)
      refine ⟨⟨k + 1, by omega, by go_num, ⟨by rw [← HX.out, HN.out]; simp⟩, ⟨below_step HB.out HB1.out⟩, ⟨blk_below HBk.out HB1.out⟩⟩, ?_⟩
      simp [intOf]; omega
    ·have HX2 := Aside0.mk (show kindB V LN NM FO n = r by rw [← HX.out, List.drop_of_length_le (by omega), allL]; simp)
     clear HX HI HC
     have hBk := HBk.out
     have hcl := fun (W : World) (i : Nat) (h : W.heap[w.heap.size]? = some (.cells (nodeA n A c) 33 (0, 0))) => blk_cell h i
     have HVn := Aside0.mk (HV.out n)
     have HL4 := Aside0.mk (HLn.out n.f4)
     have HN4 := Aside0.mk (HNm.out n.f4)
     have HP2 := Aside0.mk (ref_Place_B n.f2.f0.f0 n.f2.f0.f1)
     have HP3 := Aside0.mk (ref_Place_B n.f3.f0.f0 n.f3.f0.f1)
     generalize hvn : V n = vn at HVn
     generalize hln : LN n.f4 = ln at HL4
     generalize hnm : NM n.f4 = nm at HN4
     generalize hp2 : placeB n.f2.f0.f0 n.f2.f0.f1 = p2 at HP2
     generalize hp3 : placeB n.f3.f0.f0 n.f3.f0.f1 = p3 at HP3
     have HXk := Aside0.mk (show (if n.f0 = 1 then decide (n.f5.length = 0) && (vn && ((n.f1.f0 != 0) && decide (0 ≤ n.f1.f1))) else if n.f0 = 2 then decide (n.f5.length = 0) && p2 else if n.f0 = 3 then decide (n.f5.length = 0) && (p2 && p3) else if n.f0 = 4 then decide (n.f5.length = 1) else if n.f0 = 5 then decide (n.f5.length = 2) && decide (0 ≤ ln) else if n.f0 = 6 then nm && ((FO n.f4).toList == n.f4.toList) else false) = r by rw [← HX2.out, ← hvn, ← hln, ← hnm, ← hp2, ← hp3]; rfl)
     have HFn := Aside0.mk (show nm = true → foolscapref04_Fold.f n.f4 = some (FO n.f4) from fun h => HFo.out n.f4 (hnm.trans h))
     clear hvn hln hnm hp2 hp3 HX2
     by_cases k1 : n.f0 = 1
     ·have HXf := Aside0.mk (show (decide (n.f5.length = 0) && (vn && ((n.f1.f0 != 0) && decide (0 ≤ n.f1.f1)))) = r by rw [← HXk.out, if_pos k1])
      clear HXk
      go_wp2_with (go_at_call 65; (with_reducible refine (foolscapref04_Right.calls _ _ _ _ _ _ _ HVn.out).mono ?_); rintro e w1 ⟨rfl, hb⟩; have hB1 := blk_below HBk.out hb; have HB1 := Aside0.mk hb; clear hb)
      all_goals (go_ret; exact ⟨ret_b (by rw [← HXf.out]; simp_all), by first | exact HB.out | exact below_step HB.out HB1.out⟩)
     by_cases k2 : n.f0 = 2
     ·have HXf := Aside0.mk (show (decide (n.f5.length = 0) && p2) = r by rw [← HXk.out, if_neg k1, if_pos k2])
      clear HXk
      go_wp2_with (go_at_call 66; (with_reducible refine (foolscapref05_Place.calls _ _ _ _ HP2.out).mono ?_); rintro e w1 ⟨rfl, hb⟩; have hB1 := blk_below HBk.out hb; have HB1 := Aside0.mk hb; clear hb)
      all_goals (go_ret; exact ⟨ret_b (by rw [← HXf.out]; simp_all), by first | exact HB.out | exact below_step HB.out HB1.out⟩)
     by_cases k3 : n.f0 = 3
     ·have HXf := Aside0.mk (show (decide (n.f5.length = 0) && (p2 && p3)) = r by rw [← HXk.out, if_neg k1, if_neg k2, if_pos k3])
      clear HXk
      go_wp2_with (first
       | (go_at_call 66; (with_reducible refine (foolscapref05_Place.calls _ _ _ _ HP2.out).mono ?_); clear HP2; rintro e w1 ⟨rfl, hb⟩; have hB1 := blk_below HBk.out hb; have HB1 := Aside0.mk hb; clear hb)
       | (go_at_call 66; (with_reducible refine (foolscapref05_Place.calls _ _ _ _ HP3.out).mono ?_); rintro e w2 ⟨rfl, hb⟩; have HB2 := Aside0.mk hb; clear hb))
      all_goals (go_ret; exact ⟨ret_b (by rw [← HXf.out]; simp_all), by first | exact HB.out | exact below_step HB.out HB1.out | exact below_step (below_step HB.out HB1.out) HB2.out⟩)
     by_cases k4 : n.f0 = 4
     ·have HXf := Aside0.mk (show decide (n.f5.length = 1) = r by rw [← HXk.out, if_neg k1, if_neg k2, if_neg k3, if_pos k4])
      clear HXk
      go_wp2
      all_goals (go_ret; exact ⟨ret_b (by rw [← HXf.out]; first | rfl | (simp_all; done) | (rw [Bool.eq_iff_iff]; simp; omega) | (simp_all; omega)), HB.out⟩)
     by_cases k5 : n.f0 = 5
     ·have HXf := Aside0.mk (show (decide (n.f5.length = 2) && decide (0 ≤ ln)) = r by rw [← HXk.out, if_neg k1, if_neg k2, if_neg k3, if_neg k4, if_pos k5])
      clear HXk
      go_wp2_with (go_at_call 67; (with_reducible refine (foolscapref08_Line.calls _ _ _ _ HL4.out).mono ?_); rintro e w1 ⟨rfl, nd, rfl⟩)
      all_goals (go_ret; exact ⟨ret_b (by rw [← HXf.out]; first | rfl | (simp_all; done) | (rw [Bool.eq_iff_iff]; simp; omega) | (simp_all; omega)), by first | exact HB.out | exact pw_below_drewN HB.out _⟩)
     by_cases k6 : n.f0 = 6
     ·have HXf := Aside0.mk (show (nm && ((FO n.f4).toList == n.f4.toList)) = r by rw [← HXk.out, if_neg k1, if_neg k2, if_neg k3, if_neg k4, if_neg k5, if_pos k6])
      clear HXk
      have HBd := Aside0.mk (blk_drew HBk.out)
      have HBw := Aside0.mk (below_drew1 HB.out)
      cases nm with
      | false =>
       go_wp2
       refine start_ (n := 12) (S := (fun w' => w'.heap[w.heap.size]? = some (.cells (nodeA n A c) 33 (0, 0)))) (ds := []) (Array.replicate 12 false) (by kernel_rfl) rfl rfl (blk_drew HBk.out) (fun hHeld => ?_)
       refine with_tabW refRight.tab20 refRight.bits20 (fun HT_ HW_ => ?_)
       refine pz 0 96 HT_ ?_
       refine tz 1 97 HT_ HW_ (hr := (by rintro w' s0; have s14 : w'.cell? ⟨w.heap.size, 14, none⟩ = some (.string n.f4) := (blk_cell s0 14).trans rfl; go_simp; with_reducible rfl)) (hS := hHeld) (h := ?_)
       refine oneI 2 (some 98) HT_ rfl rfl (by kernel_rfl) (by decide) (fun K hK => ?_)
       refine goes_ Tryz.func68 (by kernel_rfl) rfl #[.string n.f4] (by (try simp only [List.map_toArray, List.map_cons, List.map_nil]); first | done | rfl) rfl rfl (by first | rfl | ((try simp only [List.map_toArray, List.map_cons, List.map_nil]); first | done | rfl)) ?_
       with_reducible refine (foolscapref07_Name.calls _ _ _ _ HN4.out).mono ?_
       rintro e w1 ⟨rfl, nd, rfl⟩
       refine ⟨_, rfl, ?_⟩
       refine hK.out _ _ (blk_drewN hHeld _) (fun hHeld => ?_)
       clear hK K
       refine nz 98 ?_
       refine pz 3 99 HT_ ?_; refine uz 4 100 HT_ ?_; refine uz 5 101 HT_ ?_; refine uz 6 102 HT_ ?_; refine uz 7 103 HT_ ?_; refine uz 8 104 HT_ ?_; refine uz 9 105 HT_ ?_; refine pz 10 106 HT_ ?_; refine pz 11 2 HT_ ?_
       refine done_ (done_of HT_.out (by kernel_rfl)) ?_
       go_wp2
       go_ret
       exact ⟨ret_b (by rw [← HXf.out]; rfl), by first | exact HBw.out | exact pw_below_drewN HBw.out _⟩
      | true =>
       have HFq := Aside0.mk (HFn.out rfl)
       go_wp2
       refine start_ (n := 12) (S := (fun w' => w'.heap[w.heap.size]? = some (.cells (nodeA n A c) 33 (0, 0)))) (ds := []) (Array.replicate 12 false) (by kernel_rfl) rfl rfl (blk_drew HBk.out) (fun hHeld => ?_)
       refine with_tabW refRight.tab20 refRight.bits20 (fun HT_ HW_ => ?_)
       refine pz 0 96 HT_ ?_
       refine tz 1 97 HT_ HW_ (hr := (by rintro w' s0; have s14 : w'.cell? ⟨w.heap.size, 14, none⟩ = some (.string n.f4) := (blk_cell s0 14).trans rfl; go_simp; with_reducible rfl)) (hS := hHeld) (h := ?_)
       refine oneI 2 (some 98) HT_ rfl rfl (by kernel_rfl) (by decide) (fun K hK => ?_)
       refine goes_ Tryz.func68 (by kernel_rfl) rfl #[.string n.f4] (by (try simp only [List.map_toArray, List.map_cons, List.map_nil]); first | done | rfl) rfl rfl (by first | rfl | ((try simp only [List.map_toArray, List.map_cons, List.map_nil]); first | done | rfl)) ?_
       with_reducible refine (foolscapref07_Name.calls _ _ _ _ HN4.out).mono ?_
       rintro e w1 ⟨rfl, nd, rfl⟩
       refine ⟨_, rfl, ?_⟩
       refine hK.out _ _ (blk_drewN hHeld _) (fun hHeld => ?_)
       clear hK K
       refine nz 98 ?_
       refine pz 3 99 HT_ ?_; refine pz 4 100 HT_ ?_; refine pz 7 103 HT_ ?_
       refine tz 5 101 HT_ HW_ (hr := (by rintro w' s0; have s14 : w'.cell? ⟨w.heap.size, 14, none⟩ = some (.string n.f4) := (blk_cell s0 14).trans rfl; go_simp; with_reducible rfl)) (hS := hHeld) (h := ?_)
       refine tz 8 104 HT_ HW_ (hr := (by rintro w' s0; have s14 : w'.cell? ⟨w.heap.size, 14, none⟩ = some (.string n.f4) := (blk_cell s0 14).trans rfl; go_simp; with_reducible rfl)) (hS := hHeld) (h := ?_)
       refine oneI 6 (some 102) HT_ rfl rfl (by kernel_rfl) (by decide) (fun K hK => ?_)
       refine goes_ Tryz.func69 (by kernel_rfl) rfl #[.string n.f4] (by (try simp only [List.map_toArray, List.map_cons, List.map_nil]); first | done | rfl) rfl rfl (by first | rfl | ((try simp only [List.map_toArray, List.map_cons, List.map_nil]); first | done | rfl)) ?_
       with_reducible refine (foolscapref04_Fold.calls _ _ _ HFq.out).mono ?_
       rintro e w2 ⟨rfl, hb2⟩
       refine ⟨_, rfl, ?_⟩
       have HB2 := Aside0.mk hb2
       refine hK.out _ _ (blk_below hHeld hb2) (fun hHeld => ?_)
       clear hK K
       refine nz 102 ?_
       refine pz 9 105 HT_ ?_; refine pz 10 106 HT_ ?_; refine pz 11 2 HT_ ?_
       refine done_ (done_of HT_.out (by kernel_rfl)) ?_
       go_wp2
       go_ret
       exact ⟨ret_b (by rw [← HXf.out]; first | rfl | simp), below_step (pw_below_drewN HBw.out _) HB2.out⟩
     ·have HXf := Aside0.mk (show false = r by rw [← HXk.out, if_neg k1, if_neg k2, if_neg k3, if_neg k4, if_neg k5, if_neg k6])
      clear HXk
      go_wp2
      go_ret
      exact ⟨ret_b HXf.out, HB.out⟩
abbrev KidsF (W : World) (b : Nat) (A : Option Addr) (c : Nat) (l : List Nd) : Prop := l.length ≤ c ∧ Kd.F k33 W (fun k => b ≤ k) A l.length l
theorem KidsF.now {W : World} {b : Nat} {A : Option Addr} {c : Nat} {l : List Nd} (h : KidsF W b A c l) : KidsC W A c l := ⟨h.1, Kd.F_now h.2⟩
theorem KidsF.below {W W1 : World} {b : Nat} {A : Option Addr} {c : Nat} {l : List Nd} (h : KidsF W b A c l) (hb : Below W.heap.size W W1) : KidsF W1 b A c l := ⟨h.1, Kd.F_below h.2 hb⟩
theorem KidsF.lower {W : World} {b b' : Nat} {A : Option Addr} {c : Nat} {l : List Nd} (h : KidsF W b A c l) (hb : b' ≤ b) : KidsF W b' A c l := ⟨h.1, Kd.F_mono h.2 (fun _ hk => Nat.le_trans hb hk)⟩
def NodeOut (n : Nd) (w : World) (e : Ending) (w' : World) : Prop := ∃ A c, e = .returned (nodeV n A c) ∧ KidsF w' w.heap.size A c n.f5 ∧ Below w.heap.size w w'
def fewB (n : Nd) : Bool := decide (n.f5.length ≤ 4096)
theorem kid_FK {W : World} {b : Nat} {A : Option Addr} {c : Nat} (n : Nd) (h : KidsF W b A c n.f5) : Kd.FK k33 W (fun k => b ≤ k) n (nodeA n A c).toList := fun W' hW => k33_mk W' n h.1 (h.2 W' hW)
def rV (n : Nd) : Bool := (foolscapref04_Right.f n.f1.f0 n.f1.f1 n.f1.f2 n.f1.f3 n.f1.f4).getD false
theorem rV_eq (n : Nd) : foolscapref04_Right.f n.f1.f0 n.f1.f1 n.f1.f2 n.f1.f3 n.f1.f4 = some (rV n) := by
 unfold rV foolscapref04_Right.f foolscapref01_Fits.f
 repeat' split
 all_goals first | rfl | (simp only [Option.bind]; repeat' split <;> rfl)
theorem ite_some {α : Type} {c : Prop} [Decidable c] {a b : Option α} (ha : a.isSome = true) (hb : b.isSome = true) : (if c then a else b).isSome = true := by
 by_cases h : c
 ·rw [if_pos h]; exact ha
 ·rw [if_neg h]; exact hb
def rLN (s : ByteArray) : Int := (foolscapref08_Line.f 2 s).getD 0
theorem rLN_eq (s : ByteArray) : foolscapref08_Line.f 2 s = some (rLN s) := by
 have h : ∃ b, foolscapref08_Line.f 2 s = some b := by
  refine Option.isSome_iff_exists.mp ?_
  unfold foolscapref08_Line.f
  simp only [foolscapref08_Line.j0, foolscapref08_Line.j1]
  repeat' (first | rfl | refine ite_some ?_ ?_)
 obtain ⟨b, hb⟩ := h
 unfold rLN
 rw [hb]; rfl
def rNM (s : ByteArray) : Bool := (foolscapref07_Name.f 30 s).getD false
theorem letter_some (x : Int) : ∃ b, foolscapref07_letter.f x = some b := by
 unfold foolscapref07_letter.f
 repeat' split
 all_goals exact ⟨_, rfl⟩
theorem digit_some (x : Int) : ∃ b, foolscapref07_digit.f x = some b := by
 unfold foolscapref07_digit.f
 repeat' split
 all_goals exact ⟨_, rfl⟩
theorem nameL_some (s : ByteArray) (hs : s.size ≤ 20) : ∀ (k : Nat) (i : Int), 0 ≤ i → i ≤ s.size → (s.size : Int) < i + k → ∃ b, foolscapref07_Name.l0 k s i = some b
 | 0, i, h0, hi, h => by exfalso; omega
 | k + 1, i, h0, hi, h => by
  rw [foolscapref07_Name.l0]
  by_cases h1 : i < (s.size : Int)
  ·rw [if_pos h1, if_pos h0]
   have hw : wrap64 (i + 1) = i + 1 := by unfold wrap64; omega
   obtain ⟨b, hb⟩ := letter_some (bt s i)
   obtain ⟨c, hc⟩ := digit_some (bt s i)
   have ih := nameL_some s hs k (i + 1) (by omega) (by omega) (by omega)
   rw [hb, hw]
   simp only [Option.bind]
   rw [hc]
   simp only
   repeat' split
   all_goals first | exact ih | exact ⟨_, rfl⟩
  ·rw [if_neg h1]; exact ⟨_, rfl⟩
theorem rNM_eq (s : ByteArray) : foolscapref07_Name.f 30 s = some (rNM s) := by
 have h : ∃ b, foolscapref07_Name.f 30 s = some b := by
  unfold foolscapref07_Name.f
  by_cases h1 : (s.size : Int) < 1
  ·rw [if_pos h1]; exact ⟨_, rfl⟩
  ·rw [if_neg h1]
   by_cases h2 : (s.size : Int) > 20
   ·rw [if_pos h2]; exact ⟨_, rfl⟩
   ·rw [if_neg h2, if_pos (by omega)]
    obtain ⟨b, hb⟩ := letter_some (bt s 0)
    rw [hb]
    simp only [Option.bind]
    rw [show (30 : Nat) = 29 + 1 from rfl, foolscapref07_Name.j0]
    split
    ·exact ⟨_, rfl⟩
    ·exact nameL_some s (by omega) 29 0 (by omega) (by omega) (by omega)
 obtain ⟨b, hb⟩ := h
 unfold rNM
 rw [hb]; rfl
theorem rNM_size (s : ByteArray) (h : rNM s = true) : s.size ≤ 20 := by
 by_cases h2 : s.size ≤ 20
 ·exact h2
 ·exfalso
  unfold rNM foolscapref07_Name.f at h
  rw [if_neg (by omega), if_pos (by omega)] at h
  cases h
theorem rFO_eq (s : ByteArray) (h : rNM s = true) : foolscapref04_Fold.f s = some (foldB s) := by
 have := rNM_size s h
 unfold foolscapref04_Fold.f
 rw [if_pos (by omega)]
def rightS (n : Nd) : Bool := allS (fun n => plainB n && kindB rV rLN rNM foldB n) n
theorem Right_is (n : Nd) (A : Option Addr) (c : Nat) (w : World) (hK : KidsC w A c n.f5) : Calls Tryz.prog 36 #[nodeV n A c] w fun e w' => e = .returned (.bool (rightS n)) ∧ Below w.heap.size w w' :=
 Right_calls rV rLN rNM foldB 2 30 rV_eq rLN_eq rNM_eq rFO_eq (szN n + 1) n A c w (Nat.lt_succ_self _) hK
def depthI (n : Nd) : Int := if nodesS n 4096 > 4096 ∨ levelsS n 160 > 160 then 0 else levelsS n 160
def checkI (n : Nd) : Int := if levelsS n 160 > 160 then 6 else if nodesS n 4096 > 4096 then 7 else if rightS n = false then 2 else if levelsS n 160 > 40 then 6 else 0
theorem Depth_calls (n : Nd) (A : Option Addr) (c : Nat) (w : World) (hK : KidsC w A c n.f5) :
  Calls Tryz.prog 27 #[nodeV n A c] w fun e w' => e = .returned (.int .i64 (depthI n)) ∧ Below w.heap.size w w' := by
 have HC := Aside0.mk fun (W : World) (h : Below w.heap.size w W) => count_calls n A c 4096 160 W (hK.below h) (by omega) (by omega) (by omega) (by omega)
 clear hK
 have HD := Aside0.mk (show depthI n = if nodesS n 4096 > 4096 ∨ levelsS n 160 > 160 then 0 else levelsS n 160 from rfl)
 generalize depthI n = r at HD ⊢
 generalize nodesS n 4096 = p at HC HD
 generalize levelsS n 160 = q at HC HD
 go_enter Tryz.func27, Tryz.ntmps27
 go_wp2_with (go_at_call 35; (with_reducible refine (HC.out _ (bel1 _ _)).mono ?_); rintro e w1 ⟨rfl, hb⟩; have HB1 := Aside0.mk (below_step (bel1 _ _) hb); clear hb)
 all_goals (go_ret; exact ⟨ret_i (by rw [HD.out]; split <;> simp_all <;> omega), HB1.out⟩)
theorem Check_calls (n : Nd) (A : Option Addr) (c : Nat) (w : World) (hK : KidsC w A c n.f5) :
  Calls Tryz.prog 15 #[nodeV n A c] w fun e w' => e = .returned (.int .i64 (checkI n)) ∧ Below w.heap.size w w' := by
 have HC := Aside0.mk fun (W : World) (h : Below w.heap.size w W) => count_calls n A c 4096 160 W (hK.below h) (by omega) (by omega) (by omega) (by omega)
 have HR := Aside0.mk fun (W : World) (h : Below w.heap.size w W) => Right_is n A c W (hK.below h)
 clear hK
 have HD := Aside0.mk (show checkI n = if levelsS n 160 > 160 then 6 else if nodesS n 4096 > 4096 then 7 else if rightS n = false then 2 else if levelsS n 160 > 40 then 6 else 0 from rfl)
 generalize checkI n = r at HD ⊢
 generalize nodesS n 4096 = p at HC HD
 generalize levelsS n 160 = q at HC HD
 generalize rightS n = t at HR HD
 go_enter Tryz.func15, Tryz.ntmps15
 go_wp2_with (first
  | (go_at_call 35; (with_reducible refine (HC.out _ (bel1 _ _)).mono ?_); rintro e w1 ⟨rfl, hb⟩; have HB1 := Aside0.mk (below_step (bel1 _ _) hb); have hbk := blk_below (newBlk w (.cells (nodeA n A c) 33)) hb; have hcl := fun i => blk_cell hbk i; clear hb)
  | (go_at_call 36; (with_reducible refine (HR.out _ HB1.out).mono ?_); rintro e w2 ⟨rfl, hb⟩; have HB2 := Aside0.mk hb; clear hb))
 all_goals (go_ret; exact ⟨ret_i (by rw [HD.out]; repeat' split <;> simp_all <;> omega), by first | exact HB1.out | exact below_step HB1.out HB2.out⟩)
abbrev Ce := S30
def zeroV : S26 := ⟨0, 0, ⟨#[]⟩, false, 0⟩
def zeroC : Ce := ⟨⟨0, 0⟩, false, false⟩
def zeroN : Nd := ⟨0, zeroV, zeroC, zeroC, ⟨#[]⟩, []⟩
def lostN : Nd := ⟨1, ⟨4, 0, ⟨#[]⟩, false, 3⟩, zeroC, zeroC, ⟨#[]⟩, []⟩
theorem lost_calls (w : World) : Calls Tryz.prog 58 #[] w fun e w' => e = .returned (nodeV lostN none 0) ∧ Below w.heap.size w w' := by
 go_enter Tryz.func58, Tryz.ntmps58
 go_wp2_with ((with_reducible refine gate_store (t := 33) (p := 0) (v := .tmp 2) rfl ?_); refine wpRowSt rfl 33 (.tmp 0) (.tmp 2) rfl w.heap.size (nodeA lostN none 0) rfl rfl 33 _ (newBlk w _) (by kernel_rfl) rfl rfl ?_)
 refine bodyPost_ret (results_cell_row rfl _ _ w.heap.size 33 (nodeA lostN none 0) (0, 0) _ rfl (setRow_heap _ _ _ _ _ _ (newBlk w _)) Tryz.underlying33 rfl (by kernel_rfl)) rfl ?_
 exact ⟨rfl, rowBelow (bel1 w _) (Nat.le_refl _) _⟩
def withK (n : Nd) (l : List Nd) : Nd := ⟨n.f0, n.f1, n.f2, n.f3, n.f4, l⟩
abbrev cellA (c : Ce) : Array Value := #[.int .i64 c.f0.f0, .int .i64 c.f0.f1, .bool c.f1, .bool c.f2]
def slidC (r k : Int) (c : Ce) : Ce := ⟨⟨if c.f1 = true then c.f0.f0 else wrap64 (c.f0.f0 + r), if c.f2 = true then c.f0.f1 else wrap64 (c.f0.f1 + k)⟩, c.f1, c.f2⟩
def cellB (c : Ce) : Bool := placeB c.f0.f0 c.f0.f1
def refSlid.T5 : Bool × List (List Nat × List Nat) := (true, [([], []), ([], []), ([1], [1]), ([2], [2]), ([0, 3, 0], [0]), ([3, 4, 0, 1, 2, 3, 4], [3])])
def refSlid.B5 : List Nat := [0, 0, 2, 6, 15, 31]
theorem refSlid.tab5 : rtab .any (opsOf Tryz.f59 5) = refSlid.T5 := by kernel_rfl
theorem refSlid.bits5 : waitsOk refSlid.T5.2 refSlid.B5 = true := by kernel_rfl
theorem allS_kid {C : Nd → Bool} {n : Nd} (h : allS C n = true) : C n = true ∧ ∀ x ∈ n.f5, allS C x = true := by
 rw [allS_eq, Bool.and_eq_true] at h
 refine ⟨h.1, ?_⟩
 have h2 := h.2
 generalize n.f5 = l at h2
 induction l with
 | nil => intro x hx; cases hx
 | cons y r ih =>
  rw [allL, Bool.and_eq_true] at h2
  intro x hx
  cases hx with
  | head => exact h2.1
  | tail _ hx => exact ih h2.2 x hx
theorem kidsF_nil (W : World) (b : Nat) (A : Option Addr) (c : Nat) : KidsF W b A c [] := ⟨Nat.zero_le _, fun W' _ => ⟨rfl, by simp, fun h => absurd h (Nat.lt_irrefl 0)⟩⟩
mutual
/-- a formula with its cells and its ranges changed; none: it is lost. -/
def wayS (C : Ce → Option Ce) (D : Ce → Ce → Option (Ce × Ce)) : Nd → Nd
 | ⟨a, v, c, t, s, l⟩ =>
  if a = 2 then (match C c with | some c' => ⟨a, v, c', t, s, wayL C D l⟩ | none => lostN)
  else if a = 3 then (match D c t with | some p => ⟨a, v, p.1, p.2, s, wayL C D l⟩ | none => lostN)
  else ⟨a, v, c, t, s, wayL C D l⟩
def wayL (C : Ce → Option Ce) (D : Ce → Ce → Option (Ce × Ce)) : List Nd → List Nd
 | [] => []
 | x :: r => wayS C D x :: wayL C D r
end
theorem wayL_eq (C : Ce → Option Ce) (D : Ce → Ce → Option (Ce × Ce)) : ∀ l, wayL C D l = l.map (wayS C D)
 | [] => by rw [wayL]; rfl
 | x :: r => by rw [wayL, wayL_eq C D r]; rfl
theorem wayS_eq (C : Ce → Option Ce) (D : Ce → Ce → Option (Ce × Ce)) (n : Nd) : wayS C D n =
  if n.f0 = 2 then (match C n.f2 with | some c' => ⟨n.f0, n.f1, c', n.f3, n.f4, n.f5.map (wayS C D)⟩ | none => lostN)
  else if n.f0 = 3 then (match D n.f2 n.f3 with | some p => ⟨n.f0, n.f1, p.1, p.2, n.f4, n.f5.map (wayS C D)⟩ | none => lostN)
  else withK n (n.f5.map (wayS C D)) := by
 cases n
 rw [wayS, wayL_eq]
 rfl
def slid1 (r k : Int) (c : Ce) : Option Ce := if cellB (slidC r k c) = true then some (slidC r k c) else none
def slid2 (r k : Int) (a b : Ce) : Option (Ce × Ce) := if cellB (slidC r k a) = true ∧ cellB (slidC r k b) = true then some (slidC r k a, slidC r k b) else none
def slideS (r k : Int) (n : Nd) : Nd := wayS (slid1 r k) (slid2 r k) n
def leafB (n : Nd) : Bool := decide (n.f5.length ≤ 4096) && (decide (n.f0 ≠ 2 ∧ n.f0 ≠ 3) || decide (n.f5.length = 0))
theorem leaf_nil {n : Nd} (h : leafB n = true) (h2 : n.f0 = 2 ∨ n.f0 = 3) : n.f5 = [] := by
 simp only [leafB, Bool.and_eq_true, Bool.or_eq_true, decide_eq_true_eq] at h
 exact List.eq_nil_of_length_eq_zero (by omega)
mutual
theorem way_back {C C2 : Ce → Option Ce} {D D2 : Ce → Ce → Option (Ce × Ce)} {Q : Nd → Bool} (h2 : ∀ n, Q n = true → n.f0 = 2 → ∃ c, C n.f2 = some c ∧ C2 c = some n.f2) (h3 : ∀ n, Q n = true → n.f0 = 3 → ∃ p, D n.f2 n.f3 = some p ∧ D2 p.1 p.2 = some (n.f2, n.f3)) :
  ∀ n : Nd, allS Q n = true → wayS C2 D2 (wayS C D n) = n
 | ⟨a, v, c, t, s, l⟩, h => by
  rw [allS, Bool.and_eq_true] at h
  have k2 : a = 2 → ∃ c', C c = some c' ∧ C2 c' = some c := h2 _ h.1
  have k3 : a = 3 → ∃ p, D c t = some p ∧ D2 p.1 p.2 = some (c, t) := h3 _ h.1
  have hl := way_backL h2 h3 l h.2
  rw [wayS]
  by_cases e2 : a = 2
  ·obtain ⟨c', q, q2⟩ := k2 e2
   rw [if_pos e2, q]
   show wayS C2 D2 ⟨a, v, c', t, s, wayL C D l⟩ = _
   rw [wayS, if_pos e2, q2, hl]
  ·by_cases e3 : a = 3
   ·obtain ⟨p, q, q2⟩ := k3 e3
    rw [if_neg e2, if_pos e3, q]
    show wayS C2 D2 ⟨a, v, p.1, p.2, s, wayL C D l⟩ = _
    rw [wayS, if_neg e2, if_pos e3, q2, hl]
   ·rw [if_neg e2, if_neg e3, wayS, if_neg e2, if_neg e3, hl]
theorem way_backL {C C2 : Ce → Option Ce} {D D2 : Ce → Ce → Option (Ce × Ce)} {Q : Nd → Bool} (h2 : ∀ n, Q n = true → n.f0 = 2 → ∃ c, C n.f2 = some c ∧ C2 c = some n.f2) (h3 : ∀ n, Q n = true → n.f0 = 3 → ∃ p, D n.f2 n.f3 = some p ∧ D2 p.1 p.2 = some (n.f2, n.f3)) :
  ∀ l : List Nd, allL Q l = true → wayL C2 D2 (wayL C D l) = l
 | [], _ => by rw [wayL, wayL]
 | x :: r, h => by
  rw [allL, Bool.and_eq_true] at h
  rw [wayL, wayL, way_back h2 h3 x h.1, way_backL h2 h3 r h.2]
end
theorem wayL_length (C : Ce → Option Ce) (D : Ce → Ce → Option (Ce × Ce)) (l : List Nd) : (wayL C D l).length = l.length := by rw [wayL_eq, List.length_map]
theorem right_of_check {n : Nd} (h : checkI n = 0) : rightS n = true ∧ nodesS n 4096 ≤ 4096 := by
 unfold checkI at h
 by_cases h1 : levelsS n 160 > 160
 ·rw [if_pos h1] at h; omega
 ·rw [if_neg h1] at h
  by_cases h2 : nodesS n 4096 > 4096
  ·rw [if_pos h2] at h; omega
  ·rw [if_neg h2] at h
   by_cases h3 : rightS n = false
   ·rw [if_pos h3] at h; omega
   ·exact ⟨by simpa using h3, by omega⟩
mutual
def cntS : Nd → Nat
 | ⟨_, _, _, _, _, l⟩ => 1 + cntL l
def cntL : List Nd → Nat
 | [] => 0
 | x :: r => cntS x + cntL r
end
mutual
theorem nodesL_ge : ∀ (l : List Nd) (m a : Int), 0 ≤ m → 1 ≤ a → a ≤ m + 1 → a ≤ nodesL l m a
 | [], m, a, _, _, _ => by rw [nodesL]; omega
 | x :: r, m, a, h0, h1, h2 => by
  rw [nodesL]
  split
  ·have := nodesS_bd x (m - a) (by omega)
   have := nodesL_ge r m (a + nodesS x (m - a)) h0 (by omega) (by omega)
   omega
  ·omega
end
mutual
theorem nodes_cnt : ∀ (n : Nd) (m : Int), 0 ≤ m → nodesS n m ≤ m → nodesS n m = (cntS n : Int)
 | ⟨a, v, c, t, s, l⟩, m, h0, h => by
  rw [nodesS] at h ⊢
  have := nodes_cntL l m 1 h0 (by omega) (by omega) h
  rw [cntS]
  omega
theorem nodes_cntL : ∀ (l : List Nd) (m a : Int), 0 ≤ m → 1 ≤ a → a ≤ m + 1 → nodesL l m a ≤ m → nodesL l m a = a + (cntL l : Int)
 | [], m, a, _, _, _, _ => by rw [nodesL, cntL]; omega
 | x :: r, m, a, h0, h1, h2, h => by
  rw [nodesL] at h ⊢
  by_cases q : a ≤ m
  ·rw [if_pos q] at h ⊢
   have b := nodesS_bd x (m - a) (by omega)
   have g := nodesL_ge r m (a + nodesS x (m - a)) h0 (by omega) (by omega)
   have c := nodes_cnt x (m - a) (by omega) (by omega)
   have d := nodes_cntL r m (a + nodesS x (m - a)) h0 (by omega) (by omega) h
   rw [cntL]
   omega
  ·rw [if_neg q] at h; omega
end
theorem newBlk3a (w : World) (o p q : Obj) : (((w.alloc o).alloc p).alloc q).heap[w.heap.size]? = some o := blk_alloc (blk_alloc (newBlk w o) p) q
theorem newBlk3b (w : World) (o p q : Obj) : (((w.alloc o).alloc p).alloc q).heap[w.heap.size + 1]? = some p := blk_alloc (newBlk2 w o p) q
theorem newBlk3c (w : World) (o p q : Obj) : (((w.alloc o).alloc p).alloc q).heap[w.heap.size + 2]? = some q := by
 have h := newBlk2 (w.alloc o) p q
 have e : (w.alloc o).heap.size = w.heap.size + 1 := by simp
 rwa [e] at h
theorem bel3 (w : World) (o p q : Obj) : Below w.heap.size w (((w.alloc o).alloc p).alloc q) := below_alloc (bel2 w o p) q
theorem nodeV_withK (n : Nd) (l : List Nd) (A : Option Addr) (c : Nat) (h : l.length = n.f5.length) : nodeV (withK n l) A c = nodeV n A c := by
 unfold nodeV nodeA withK
 simp only [h]
def way1 (X : Ce → Ce) (b : Ce → Bool) (c : Ce) : Option Ce := if b c = true then some (X c) else none
def way2 (Y Z : Ce → Ce → Ce) (b : Ce → Ce → Bool) (a c : Ce) : Option (Ce × Ce) := if b a c = true then some (Y a c, Z a c) else none
abbrev wayV1 (P Q F : Value) : Value := .agg #[.func (.func 55) #[] #[P, Q], .func (.func 57) #[] #[F]]
def CellLaw1 (P Q : Value) (X : Ce → Ce) (b : Ce → Bool) (w : World) : Prop := ∀ (c : Ce) (W : World), Below w.heap.size w W → Calls Tryz.prog 55 #[.agg (cellA c), P, Q] W fun e w' => e = .returned (.tuple #[.agg (cellA (X c)), .bool (b c)]) ∧ Below W.heap.size W w'
def SpanLaw1 (F : Value) (X Y : Ce → Ce → Ce) (b : Ce → Ce → Bool) (w : World) : Prop := ∀ (a c : Ce) (W : World), Below w.heap.size w W → Calls Tryz.prog 57 #[.agg (cellA a), .agg (cellA c), F] W fun e w' => e = .returned (.tuple #[.agg (cellA (X a c)), .agg (cellA (Y a c)), .bool (b a c)]) ∧ Below W.heap.size W w'
theorem CellLaw1.below {P Q : Value} {X : Ce → Ce} {b : Ce → Bool} {w w1 : World} (h : CellLaw1 P Q X b w) (hb : Below w.heap.size w w1) : CellLaw1 P Q X b w1 := fun c W hW => h c W (below_step hb hW)
theorem SpanLaw1.below {F : Value} {X Y : Ce → Ce → Ce} {b : Ce → Ce → Bool} {w w1 : World} (h : SpanLaw1 F X Y b w) (hb : Below w.heap.size w w1) : SpanLaw1 F X Y b w1 := fun a c W hW => h a c W (below_step hb hW)
theorem node1_cell_some (P Q F : Value) (f1 : S26) (f2 f3 x : Ce) (f4 : ByteArray) (A : Option Addr) (c : Nat) (w : World)
  (hC : ∀ (W : World), Below w.heap.size w W → Calls Tryz.prog 55 #[.agg (cellA f2), P, Q] W fun e w' => e = .returned (.tuple #[.agg (cellA x), .bool true]) ∧ Below W.heap.size W w') :
  Calls Tryz.prog 33 #[wayV1 P Q F, nodeV ⟨2, f1, f2, f3, f4, []⟩ A c] w (NodeOut ⟨2, f1, x, f3, f4, []⟩ w) := by
 have HC := Aside0.mk hC
 clear hC
 have hne : w.heap.size + 2 ≠ w.heap.size + 1 := by omega
 go_enter Tryz.func33, Tryz.ntmps33
 go_wp2_with (first
  | (go_at_call 55; (with_reducible refine (HC.out _ (bel3 w _ _ _)).mono ?_); rintro e w1 ⟨rfl, hb⟩; have HB1 := Aside0.mk (below_step (bel3 w _ _ _) hb); have B3 := Aside0.mk (blk_below (newBlk3b w (.cells #[.func (.func 55) #[] #[P, Q], .func (.func 57) #[] #[F]] 76) (.cells (nodeA ⟨2, f1, f2, f3, f4, []⟩ A c) 33) (.cells (nodeA zeroN none 0) 33)) hb); have B4 := Aside0.mk (blk_below (newBlk3c w (.cells #[.func (.func 55) #[] #[P, Q], .func (.func 57) #[] #[F]] 76) (.cells (nodeA ⟨2, f1, f2, f3, f4, []⟩ A c) 33) (.cells (nodeA zeroN none 0) 33)) hb); have hc := fun i => blk_cell B3.out i; have hf := fun i => blk_frozen B3.out i; clear hb))
 refine wp_loop_rounds 1 ?_
 rw [rounds_succ]
 go_wp2_with ((with_reducible refine gate_store (t := 33) (p := 4) (v := .tmp 56) rfl ?_); refine wpRowSt rfl 33 (.tmp 4) (.tmp 56) rfl (w.heap.size + 2) (nodeA ⟨2, f1, x, f3, f4, []⟩ none 0) rfl rfl 33 _ (blk_far (p := ⟨w.heap.size + 1, 15, none⟩) (blk_far (p := ⟨w.heap.size + 1, 9, none⟩) (blk_far (p := ⟨w.heap.size + 1, 8, none⟩) (blk_far (p := ⟨w.heap.size + 1, 7, none⟩) (blk_far (p := ⟨w.heap.size + 1, 6, none⟩) B4.out hne _) hne _) hne _) hne _) hne _) (by kernel_rfl) rfl rfl ?_)
 refine bodyPost_ret (results_cell_row rfl _ _ (w.heap.size + 2) 33 (nodeA ⟨2, f1, x, f3, f4, []⟩ none 0) (0, 0) _ rfl (setRow_heap _ _ _ _ _ _ (blk_far (p := ⟨w.heap.size + 1, 15, none⟩) (blk_far (p := ⟨w.heap.size + 1, 9, none⟩) (blk_far (p := ⟨w.heap.size + 1, 8, none⟩) (blk_far (p := ⟨w.heap.size + 1, 7, none⟩) (blk_far (p := ⟨w.heap.size + 1, 6, none⟩) B4.out hne _) hne _) hne _) hne _) hne _)) Tryz.underlying33 rfl (by kernel_rfl)) rfl ?_
 exact ⟨none, 0, rfl, kidsF_nil _ _ _ _, rowBelow (below_set (below_set (below_set (below_set (below_set HB1.out (Nat.le_succ _)) (Nat.le_succ _)) (Nat.le_succ _)) (Nat.le_succ _)) (Nat.le_succ _)) (by omega) _⟩
theorem node1_cell_none (P Q F : Value) (f1 : S26) (f2 f3 x : Ce) (f4 : ByteArray) (A : Option Addr) (c : Nat) (w : World)
  (hC : ∀ (W : World), Below w.heap.size w W → Calls Tryz.prog 55 #[.agg (cellA f2), P, Q] W fun e w' => e = .returned (.tuple #[.agg (cellA x), .bool false]) ∧ Below W.heap.size W w') :
  Calls Tryz.prog 33 #[wayV1 P Q F, nodeV ⟨2, f1, f2, f3, f4, []⟩ A c] w (NodeOut lostN w) := by
 have HC := Aside0.mk hC
 clear hC
 have hne : w.heap.size + 2 ≠ w.heap.size + 1 := by omega
 go_enter Tryz.func33, Tryz.ntmps33
 go_wp2_with (first
  | (go_at_call 55; (with_reducible refine (HC.out _ (bel3 w _ _ _)).mono ?_); rintro e w1 ⟨rfl, hb⟩; have HB1 := Aside0.mk (below_step (bel3 w _ _ _) hb); have B3 := Aside0.mk (blk_below (newBlk3b w (.cells #[.func (.func 55) #[] #[P, Q], .func (.func 57) #[] #[F]] 76) (.cells (nodeA ⟨2, f1, f2, f3, f4, []⟩ A c) 33) (.cells (nodeA zeroN none 0) 33)) hb); have B4 := Aside0.mk (blk_below (newBlk3c w (.cells #[.func (.func 55) #[] #[P, Q], .func (.func 57) #[] #[F]] 76) (.cells (nodeA ⟨2, f1, f2, f3, f4, []⟩ A c) 33) (.cells (nodeA zeroN none 0) 33)) hb); have hc := fun i => blk_cell B3.out i; have hf := fun i => blk_frozen B3.out i; clear hb)
  | (go_at_call 58; (with_reducible refine (lost_calls _).mono ?_); rintro e w3 ⟨rfl, hb⟩; have HB3 := Aside0.mk (below_step (below_set (below_set (below_set (below_set HB1.out (Nat.le_succ _)) (Nat.le_succ _)) (Nat.le_succ _)) (Nat.le_succ _)) hb); have D4 := Aside0.mk (blk_below (blk_far (p := ⟨w.heap.size + 1, 9, none⟩) (blk_far (p := ⟨w.heap.size + 1, 8, none⟩) (blk_far (p := ⟨w.heap.size + 1, 7, none⟩) (blk_far (p := ⟨w.heap.size + 1, 6, none⟩) B4.out hne _) hne _) hne _) hne _) hb); clear hb)
  | ((with_reducible refine gate_store (t := 33) (p := 4) (v := .tmp 39) rfl ?_); refine wpRowSt rfl 33 (.tmp 4) (.tmp 39) rfl (w.heap.size + 2) (nodeA lostN none 0) rfl rfl 33 _ D4.out (by kernel_rfl) rfl rfl ?_))
 refine bodyPost_ret (results_cell_row rfl _ _ (w.heap.size + 2) 33 (nodeA lostN none 0) (0, 0) _ rfl (setRow_heap _ _ _ _ _ _ D4.out) Tryz.underlying33 rfl (by kernel_rfl)) rfl ?_
 exact ⟨none, 0, rfl, kidsF_nil _ _ _ _, rowBelow HB3.out (by omega) _⟩
theorem node1_span_some (P Q F : Value) (f1 : S26) (f2 f3 x y : Ce) (f4 : ByteArray) (A : Option Addr) (c : Nat) (w : World)
  (hC : ∀ (W : World), Below w.heap.size w W → Calls Tryz.prog 57 #[.agg (cellA f2), .agg (cellA f3), F] W fun e w' => e = .returned (.tuple #[.agg (cellA x), .agg (cellA y), .bool true]) ∧ Below W.heap.size W w') :
  Calls Tryz.prog 33 #[wayV1 P Q F, nodeV ⟨3, f1, f2, f3, f4, []⟩ A c] w (NodeOut ⟨3, f1, x, y, f4, []⟩ w) := by
 have HC := Aside0.mk hC
 clear hC
 have hne : w.heap.size + 2 ≠ w.heap.size + 1 := by omega
 go_enter Tryz.func33, Tryz.ntmps33
 go_wp2_with (first
  | (go_at_call 57; (with_reducible refine (HC.out _ (bel3 w _ _ _)).mono ?_); rintro e w1 ⟨rfl, hb⟩; have HB1 := Aside0.mk (below_step (bel3 w _ _ _) hb); have B3 := Aside0.mk (blk_below (newBlk3b w (.cells #[.func (.func 55) #[] #[P, Q], .func (.func 57) #[] #[F]] 76) (.cells (nodeA ⟨3, f1, f2, f3, f4, []⟩ A c) 33) (.cells (nodeA zeroN none 0) 33)) hb); have B4 := Aside0.mk (blk_below (newBlk3c w (.cells #[.func (.func 55) #[] #[P, Q], .func (.func 57) #[] #[F]] 76) (.cells (nodeA ⟨3, f1, f2, f3, f4, []⟩ A c) 33) (.cells (nodeA zeroN none 0) 33)) hb); have hc := fun i => blk_cell B3.out i; have hf := fun i => blk_frozen B3.out i; clear hb))
 refine wp_loop_rounds 1 ?_
 rw [rounds_succ]
 go_wp2_with ((with_reducible refine gate_store (t := 33) (p := 4) (v := .tmp 56) rfl ?_); refine wpRowSt rfl 33 (.tmp 4) (.tmp 56) rfl (w.heap.size + 2) (nodeA ⟨3, f1, x, y, f4, []⟩ none 0) rfl rfl 33 _ (blk_far (p := ⟨w.heap.size + 1, 15, none⟩) (blk_far (p := ⟨w.heap.size + 1, 13, none⟩) (blk_far (p := ⟨w.heap.size + 1, 12, none⟩) (blk_far (p := ⟨w.heap.size + 1, 11, none⟩) (blk_far (p := ⟨w.heap.size + 1, 10, none⟩) (blk_far (p := ⟨w.heap.size + 1, 9, none⟩) (blk_far (p := ⟨w.heap.size + 1, 8, none⟩) (blk_far (p := ⟨w.heap.size + 1, 7, none⟩) (blk_far (p := ⟨w.heap.size + 1, 6, none⟩) B4.out hne _) hne _) hne _) hne _) hne _) hne _) hne _) hne _) hne _) (by kernel_rfl) rfl rfl ?_)
 refine bodyPost_ret (results_cell_row rfl _ _ (w.heap.size + 2) 33 (nodeA ⟨3, f1, x, y, f4, []⟩ none 0) (0, 0) _ rfl (setRow_heap _ _ _ _ _ _ (blk_far (p := ⟨w.heap.size + 1, 15, none⟩) (blk_far (p := ⟨w.heap.size + 1, 13, none⟩) (blk_far (p := ⟨w.heap.size + 1, 12, none⟩) (blk_far (p := ⟨w.heap.size + 1, 11, none⟩) (blk_far (p := ⟨w.heap.size + 1, 10, none⟩) (blk_far (p := ⟨w.heap.size + 1, 9, none⟩) (blk_far (p := ⟨w.heap.size + 1, 8, none⟩) (blk_far (p := ⟨w.heap.size + 1, 7, none⟩) (blk_far (p := ⟨w.heap.size + 1, 6, none⟩) B4.out hne _) hne _) hne _) hne _) hne _) hne _) hne _) hne _) hne _)) Tryz.underlying33 rfl (by kernel_rfl)) rfl ?_
 exact ⟨none, 0, rfl, kidsF_nil _ _ _ _, rowBelow (below_set (below_set (below_set (below_set (below_set (below_set (below_set (below_set (below_set HB1.out (Nat.le_succ _)) (Nat.le_succ _)) (Nat.le_succ _)) (Nat.le_succ _)) (Nat.le_succ _)) (Nat.le_succ _)) (Nat.le_succ _)) (Nat.le_succ _)) (Nat.le_succ _)) (by omega) _⟩
theorem node1_span_none (P Q F : Value) (f1 : S26) (f2 f3 x y : Ce) (f4 : ByteArray) (A : Option Addr) (c : Nat) (w : World)
  (hC : ∀ (W : World), Below w.heap.size w W → Calls Tryz.prog 57 #[.agg (cellA f2), .agg (cellA f3), F] W fun e w' => e = .returned (.tuple #[.agg (cellA x), .agg (cellA y), .bool false]) ∧ Below W.heap.size W w') :
  Calls Tryz.prog 33 #[wayV1 P Q F, nodeV ⟨3, f1, f2, f3, f4, []⟩ A c] w (NodeOut lostN w) := by
 have HC := Aside0.mk hC
 clear hC
 have hne : w.heap.size + 2 ≠ w.heap.size + 1 := by omega
 go_enter Tryz.func33, Tryz.ntmps33
 go_wp2_with (first
  | (go_at_call 57; (with_reducible refine (HC.out _ (bel3 w _ _ _)).mono ?_); rintro e w1 ⟨rfl, hb⟩; have HB1 := Aside0.mk (below_step (bel3 w _ _ _) hb); have B3 := Aside0.mk (blk_below (newBlk3b w (.cells #[.func (.func 55) #[] #[P, Q], .func (.func 57) #[] #[F]] 76) (.cells (nodeA ⟨3, f1, f2, f3, f4, []⟩ A c) 33) (.cells (nodeA zeroN none 0) 33)) hb); have B4 := Aside0.mk (blk_below (newBlk3c w (.cells #[.func (.func 55) #[] #[P, Q], .func (.func 57) #[] #[F]] 76) (.cells (nodeA ⟨3, f1, f2, f3, f4, []⟩ A c) 33) (.cells (nodeA zeroN none 0) 33)) hb); have hc := fun i => blk_cell B3.out i; have hf := fun i => blk_frozen B3.out i; clear hb)
  | (go_at_call 58; (with_reducible refine (lost_calls _).mono ?_); rintro e w3 ⟨rfl, hb⟩; have HB3 := Aside0.mk (below_step (below_set (below_set (below_set (below_set (below_set (below_set (below_set (below_set HB1.out (Nat.le_succ _)) (Nat.le_succ _)) (Nat.le_succ _)) (Nat.le_succ _)) (Nat.le_succ _)) (Nat.le_succ _)) (Nat.le_succ _)) (Nat.le_succ _)) hb); have D4 := Aside0.mk (blk_below (blk_far (p := ⟨w.heap.size + 1, 13, none⟩) (blk_far (p := ⟨w.heap.size + 1, 12, none⟩) (blk_far (p := ⟨w.heap.size + 1, 11, none⟩) (blk_far (p := ⟨w.heap.size + 1, 10, none⟩) (blk_far (p := ⟨w.heap.size + 1, 9, none⟩) (blk_far (p := ⟨w.heap.size + 1, 8, none⟩) (blk_far (p := ⟨w.heap.size + 1, 7, none⟩) (blk_far (p := ⟨w.heap.size + 1, 6, none⟩) B4.out hne _) hne _) hne _) hne _) hne _) hne _) hne _) hne _) hb); clear hb)
  | ((with_reducible refine gate_store (t := 33) (p := 4) (v := .tmp 39) rfl ?_); refine wpRowSt rfl 33 (.tmp 4) (.tmp 39) rfl (w.heap.size + 2) (nodeA lostN none 0) rfl rfl 33 _ D4.out (by kernel_rfl) rfl rfl ?_))
 refine bodyPost_ret (results_cell_row rfl _ _ (w.heap.size + 2) 33 (nodeA lostN none 0) (0, 0) _ rfl (setRow_heap _ _ _ _ _ _ D4.out) Tryz.underlying33 rfl (by kernel_rfl)) rfl ?_
 exact ⟨none, 0, rfl, kidsF_nil _ _ _ _, rowBelow HB3.out (by omega) _⟩
theorem node1_calls (P Q F : Value) (X : Ce → Ce) (b : Ce → Bool) (Y Z : Ce → Ce → Ce) (b2 : Ce → Ce → Bool) (d : Nat) : ∀ (n : Nd) (A : Option Addr) (c : Nat) (w : World) (hd : szN n < d) (hK : KidsC w A c n.f5) (hS : allS leafB n = true)
  (hC : CellLaw1 P Q X b w) (hD : SpanLaw1 F Y Z b2 w),
  Calls Tryz.prog 33 #[wayV1 P Q F, nodeV n A c] w (NodeOut (wayS (way1 X b) (way2 Y Z b2) n) w) := by
 induction d with
 | zero => intro n A c w hd; omega
 | succ d ih =>
 intro n A c w hd hK hS hC hD
 by_cases h2 : n.f0 = 2
 ·have hl0 := leaf_nil (allS_kid hS).1 (Or.inl h2)
  rw [wayS_eq, if_pos h2, hl0]
  obtain ⟨f0, f1, f2, f3, f4, l⟩ := n
  simp only at h2 hl0
  subst h2
  subst hl0
  cases hq : b f2 with
  | true =>
   rw [show way1 X b f2 = some (X f2) from by unfold way1; rw [if_pos hq]]
   exact node1_cell_some P Q F f1 f2 f3 (X f2) f4 A c w (fun W hW => by have := hC f2 W hW; rwa [hq] at this)
  | false =>
   rw [show way1 X b f2 = none from by unfold way1; rw [if_neg (by simp [hq])]]
   exact node1_cell_none P Q F f1 f2 f3 (X f2) f4 A c w (fun W hW => by have := hC f2 W hW; rwa [hq] at this)
 by_cases h3 : n.f0 = 3
 ·have hl0 := leaf_nil (allS_kid hS).1 (Or.inr h3)
  rw [wayS_eq, if_neg h2, if_pos h3, hl0]
  obtain ⟨f0, f1, f2, f3, f4, l⟩ := n
  simp only at h3 hl0
  subst h3
  subst hl0
  cases hq : b2 f2 f3 with
  | true =>
   rw [show way2 Y Z b2 f2 f3 = some (Y f2 f3, Z f2 f3) from by unfold way2; rw [if_pos hq]]
   exact node1_span_some P Q F f1 f2 f3 (Y f2 f3) (Z f2 f3) f4 A c w (fun W hW => by have := hD f2 f3 W hW; rwa [hq] at this)
  | false =>
   rw [show way2 Y Z b2 f2 f3 = none from by unfold way2; rw [if_neg (by simp [hq])]]
   exact node1_span_none P Q F f1 f2 f3 (Y f2 f3) (Z f2 f3) f4 A c w (fun W hW => by have := hD f2 f3 W hW; rwa [hq] at this)
 ·obtain ⟨hlc, hCC⟩ := hK
  have hmax := hCC.2.1
  have HC := Aside0.mk hCC
  have HD := Aside0.mk hd
  have HS := Aside0.mk (allS_kid hS)
  have hfew : n.f5.length ≤ 4096 := by have := HS.out.1; simp only [leafB, Bool.and_eq_true, decide_eq_true_eq] at this; exact this.1
  have HI := Aside0.mk fun (x : Nd) (A : Option Addr) (c : Nat) (W : World) (hm : x ∈ n.f5) (hW : Below w.heap.size w W) (hx : KidsC W A c x.f5) => ih x A c W (by have := kid_lt hm; have := HD.out; omega) hx (HS.out.2 _ hm) (hC.below hW) (hD.below hW)
  clear hCC ih hd hS HS HD hC hD
  have HX := Aside0.mk (show wayS (way1 X b) (way2 Y Z b2) n = withK n (n.f5.map (wayS (way1 X b) (way2 Y Z b2))) by rw [wayS_eq, if_neg h2, if_neg h3])
  generalize hG : wayS (way1 X b) (way2 Y Z b2) = g at HX HI ⊢
  generalize g n = x at HX ⊢
  clear hG
  have hb2 : (n.f0 == 2) = false := by simp [h2]
  have hb3 : (n.f0 == 3) = false := by simp [h3]
  go_enter Tryz.func33, Tryz.ntmps33
  go_wp2
  go_loopw [6, 43] (fun v i wr => ∃ (q : Nat), q ≤ n.f5.length ∧ i = .int .i64 q ∧ Aside0 (Kd.N k33 33 wr w.heap.size (fun z => w.heap.size + 3 ≤ z) v ((n.f5.take q).map g)) ∧ Aside0 (w.heap.size + 3 ≤ wr.heap.size) ∧ Aside0 (Below w.heap.size w wr) ∧ Aside0 (wr.heap[w.heap.size]? = some (.cells #[.func (.func 55) #[] #[P, Q], .func (.func 57) #[] #[F]] 76 (0, 0))) ∧ Aside0 (wr.heap[w.heap.size + 1]? = some (.cells (nodeA n A c) 33 (0, 0))) ∧ Aside0 (wr.heap[w.heap.size + 2]? = some (.cells (nodeA zeroN none 0) 33 (0, 0)))) (fun _ i _ => n.f5.length - (intOf i).toNat)
  case atStart => exact ⟨0, by omega, rfl, ⟨Kd.N_nil _ _ _ _ _⟩, ⟨by simp⟩, ⟨bel3 w _ _ _⟩, ⟨newBlk3a w _ _ _⟩, ⟨newBlk3b w _ _ _⟩, ⟨newBlk3c w _ _ _⟩⟩
  case round =>
   obtain ⟨q, hk, rfl, HN, HZ, HB, HW, HBk, HO⟩ := hrel
   by_cases hkl : q < n.f5.length
   ·obtain ⟨ad, A', c', e, hK', g0, g1, g2, g3, g4, g5, g6, g7, g8, g9, g10, g11, g12, g13, g14, g15⟩ := at_kid (Kd.C_below HC.out HB.out) q hkl
    subst e
    have HK' := Aside0.mk hK'
    clear hK'
    have HM := Aside0.mk (List.getElem_mem hkl)
    have HT := Aside0.mk (show (n.f5.take (q + 1)).map g = (n.f5.take q).map g ++ [g n.f5[q]] by rw [List.take_succ_eq_append_getElem hkl, List.map_append]; rfl)
    have hw := fun (o : Obj) (i : Nat) => blk_cell (blk_alloc HW.out o) i
    go_wp2_with (first
     | (go_at_call 33; (with_reducible refine (HI.out n.f5[q] A' c' _ HM.out (below_alloc HB.out _) (HK'.out.below (bel1 wr _))).mono ?_); rintro e w3 ⟨A2, c2, rfl, hF, hb⟩; have HB3 := Aside0.mk (below_step (bel1 wr _) hb); have HF := Aside0.mk (hF.lower (b' := wr.heap.size) (by simp)); clear hb hF)
     | (at_builtin; refine Kd.N_append k33 (w0 := w) w.heap.size rfl (.tmp 47) (.tmp 51) 31 33 (.agg #[(.int .i64 0), (.int .i64 0), (.int .i64 0), (.string ⟨#[]⟩), (.bool false), (.int .i64 0), (.int .i64 0), (.int .i64 0), (.bool false), (.bool false), (.int .i64 0), (.int .i64 0), (.bool false), (.bool false), (.string ⟨#[]⟩), (.slice none 0 0)]) 144 rfl Tryz.underlying31 info33 rfl (by decide) (by omega) _ ((n.f5.take q).map g) (g n.f5[q]) (nodeA (g n.f5[q]) A2 c2).toList (fun z => w.heap.size + 3 ≤ z) (fun z => wr.heap.size ≤ z) rfl rfl (kid_FK _ HF.out) ?aK ?aF (Kd.N_below HN.out HB3.out) (below_step HB.out HB3.out) ?aS ?aL ?_; (case aK => exact fun z hz => ⟨Nat.le_trans HZ.out hz, fun he => by have := Kd.N_lt HN.out _ he.symm; omega⟩); (case aF => exact fun z hz => by have := HZ.out; have := HB3.out.size; omega); (case aS => exact (below_size (below_step HB.out HB3.out))); (case aL => rw [List.length_map, List.length_take]; omega); intro v1 w4 ho hb2 hg hat; have HN2 := Aside0.mk ho; have HB2 := Aside0.mk hb2; have HG2 := Aside0.mk hg; clear ho hb2 hg hat))
    have h2' := blk_grown (blk_below HO.out HB3.out) HG2.out (fun he => by have := HN.out.1 _ he.symm; omega)
    refine ⟨⟨q + 1, by omega, by go_num, ⟨by rw [HT.out]; exact HN2.out⟩, ⟨by have := blk_lt h2'; omega⟩, HB2, ⟨blk_grown (blk_below HW.out HB3.out) HG2.out (fun he => by have := HN.out.1 _ he.symm; omega)⟩, ⟨blk_grown (blk_below HBk.out HB3.out) HG2.out (fun he => by have := HN.out.1 _ he.symm; omega)⟩, ⟨h2'⟩⟩, ?_⟩
    simp [intOf]; omega
   ·have HN' := Aside0.mk HN.out
    rw [List.take_of_length_le (by omega)] at HN'
    obtain ⟨A2, c2, rfl⟩ := Kd.N_slice HN'.out
    clear HN HC HI HW
    have hc := fun i => blk_cell HBk.out i
    have hf := fun i => blk_frozen HBk.out i
    have hne : w.heap.size + 2 ≠ w.heap.size + 1 := by omega
    go_wp2_with ((with_reducible refine gate_store (t := 33) (p := 4) (v := .tmp 56) rfl ?_); refine wpRowSt rfl 33 (.tmp 4) (.tmp 56) rfl (w.heap.size + 2) (nodeA n A2 c2) rfl rfl 33 _ (blk_far (p := ⟨w.heap.size + 1, 15, none⟩) HO.out hne _) (by kernel_rfl) rfl rfl ?_)
    refine bodyPost_ret (results_cell_row rfl _ _ (w.heap.size + 2) 33 (nodeA n A2 c2) (0, 0) _ rfl (setRow_heap _ _ _ _ _ _ (blk_far (p := ⟨w.heap.size + 1, 15, none⟩) HO.out hne _)) Tryz.underlying33 rfl (by kernel_rfl)) rfl ?_
    rw [HX.out]
    exact ⟨A2, c2, by rw [nodeV_withK n _ A2 c2 (List.length_map ..)], ⟨(Kd.N_reads' HN'.out).2.1, Kd.F_mono (Kd.F_step (Kd.N_F HN'.out) (fun z hz _ => (setRow_other _ _ z _ (by omega)).trans (Below.heap_setCell wr ⟨w.heap.size + 1, 15, none⟩ _ z (by show z ≠ w.heap.size + 1; omega)))) (fun z hz => by omega)⟩, rowBelow (below_set HB.out (Nat.le_succ _)) (by omega) _⟩
end Go.Proofs.YthnldbclbfpojaaGreatDoor.Pr
end
section
namespace Go.Proofs.YthnldbclbfpojaaGreatDoor.Pr
mutual
theorem fewS : ∀ (n : Nd) (m : Int), 0 ≤ m → m ≤ 4096 → nodesS n m ≤ m → allS fewB n = true
 | ⟨a, b, c, t, s, l⟩, m, h0, h1, h => by
  rw [nodesS] at h
  have h2 := fewL l m 1 h0 h1 (by omega) (by omega) h
  rw [allS, Bool.and_eq_true]
  exact ⟨decide_eq_true (by show l.length ≤ 4096; omega), h2.2⟩
theorem fewL : ∀ (l : List Nd) (m a : Int), 0 ≤ m → m ≤ 4096 → 1 ≤ a → a ≤ m + 1 → nodesL l m a ≤ m → a + l.length ≤ m ∧ allL fewB l = true
 | [], m, a, h0, h1, h2, h3, h => by
  rw [nodesL] at h
  exact ⟨by simpa using h, by rw [allL]⟩
 | x :: r, m, a, h0, h1, h2, h3, h => by
  rw [nodesL] at h
  by_cases ha : a ≤ m
  ·rw [if_pos ha] at h
   have hb := nodesS_bd x (m - a) (by omega)
   have h4 := fewL r m (a + nodesS x (m - a)) h0 h1 (by omega) (by omega) h
   have h5 := fewS x (m - a) (by omega) (by omega) (by omega)
   refine ⟨?_, by rw [allL, h5, h4.2]; rfl⟩
   rw [List.length_cons]
   push_cast
   omega
  ·rw [if_neg ha] at h
   omega
end
mutual
theorem allS_and {C D E : Nd → Bool} (h : ∀ n, C n = true → D n = true → E n = true) : ∀ n : Nd, allS C n = true → allS D n = true → allS E n = true
 | ⟨a, b, c, t, s, l⟩, h1, h2 => by
  rw [allS, Bool.and_eq_true] at h1 h2 ⊢
  exact ⟨h _ h1.1 h2.1, allL_and h l h1.2 h2.2⟩
theorem allL_and {C D E : Nd → Bool} (h : ∀ n, C n = true → D n = true → E n = true) : ∀ l : List Nd, allL C l = true → allL D l = true → allL E l = true
 | [], _, _ => by rw [allL]
 | x :: r, h1, h2 => by
  rw [allL, Bool.and_eq_true] at h1 h2 ⊢
  exact ⟨allS_and h x h1.1 h2.1, allL_and h r h1.2 h2.2⟩
end
theorem leaf_of_check {n : Nd} (h : checkI n = 0) : allS leafB n = true := by
 unfold checkI at h
 by_cases h1 : levelsS n 160 > 160
 ·rw [if_pos h1] at h; cases h
 rw [if_neg h1] at h
 by_cases h2 : nodesS n 4096 > 4096
 ·rw [if_pos h2] at h; cases h
 rw [if_neg h2] at h
 cases h3 : rightS n with
 | false => rw [h3, if_pos rfl] at h; cases h
 | true =>
  refine allS_and (C := fewB) (fun x hf hr => ?_) n (fewS n 4096 (by omega) (by omega) (by omega)) h3
  rw [Bool.and_eq_true] at hr
  have hk := hr.2
  unfold leafB
  rw [Bool.and_eq_true]
  refine ⟨hf, ?_⟩
  rw [Bool.or_eq_true]
  by_cases h4 : x.f0 = 2
  ·right
   unfold kindB at hk
   rw [if_neg (by omega), if_pos h4, Bool.and_eq_true] at hk
   exact hk.1
  ·by_cases h5 : x.f0 = 3
   ·right
    unfold kindB at hk
    rw [if_neg (by omega), if_neg h4, if_pos h5, Bool.and_eq_true] at hk
    exact hk.1
   ·left
    exact decide_eq_true ⟨h4, h5⟩
end Go.Proofs.YthnldbclbfpojaaGreatDoor.Pr
end
