/-
  Lemmas for the law FFindsFChecksFRectsFKids.
-/
import Derived.Test.YtopdjokncbpghaaGreatDoorSFFindsFChecksFRectsFKids8
import Derived.Test.YtopdjokncbpghaaGreatDoorSFFindsFChecksFRectsFKids7
import Derived.Test.YtopdjokncbpghaaGreatDoorSFFindsFChecksFRectsFKids22
import Derived.Test.YtopdjokncbpghaaGreatDoorSFFindsFChecksFRectsFKids12
import Derived.Test.YtopdjokncbpghaaGreatDoorSFFindsFChecksFRectsFKids15
import Derived.Deep.RegionHeld3
set_option maxHeartbeats 8000000
set_option maxRecDepth 100000
set_option linter.unusedVariables false
set_option linter.unusedSimpArgs false
section
namespace Go.Proofs.YtopdjokncbpghaaGreatDoor.Pr
open Go.RowKit Go.Proofs.YtopdjokncbpghaaGreatDoorW.PrintWords Go.Proofs.YtopdjokncbpghaaGreatDoorW.PrintLast Go.Proofs.YtopdjokncbpghaaGreatDoorW.PrintMore
def refRight.T20 : Bool × List (List Nat × List Nat) := (true, [([], []), ([0], [0]), ([1], [1]), ([2, 2], [2]), ([3], [3]), ([4, 3], [3, 4]), ([5, 3, 3], [3, 5]), ([3], [3]), ([7, 3], [3, 7]), ([6, 8, 3], [3, 6, 8]), ([3, 9], [3, 9]), ([10, 6, 0, 1, 2, 3, 4, 5, 6, 7, 8, 9, 10], [10])])
def refRight.B20 : List Nat := [0, 1, 3, 7, 15, 31, 63, 15, 143, 511, 1023, 2047]
theorem refRight.tab20 : rtab .any (opsOf Tryz.f58 20) = refRight.T20 := by kernel_rfl
theorem refRight.bits20 : waitsOk refRight.T20.2 refRight.B20 = true := by kernel_rfl
mutual
/-- a test of a node and of all in it. -/
def allS (C : Nd → Bool) : Nd → Bool
 | ⟨a, b, c, d, e, l⟩ => C ⟨a, b, c, d, e, l⟩ && allL C l
def allL (C : Nd → Bool) : List Nd → Bool
 | [] => true
 | x :: r => allS C x && allL C r
end
theorem allS_eq (C : Nd → Bool) (n : Nd) : allS C n = (C n && allL C n.f5) := by cases n; rw [allS]
def placeB (r c : Int) : Bool := decide (1 ≤ r) && (decide (r ≤ 1048576) && (decide (1 ≤ c) && decide (c ≤ 16384)))
theorem ref_Place_B (r c : Int) : foolscapref05_Place.f r c = some (placeB r c) := by
 unfold foolscapref05_Place.f placeB
 by_cases h1 : 1 ≤ r
 ·by_cases h2 : r ≤ 1048576
  ·by_cases h3 : 1 ≤ c
   ·rw [if_pos (by omega), if_pos h2, if_pos (by omega)]; simp [h1, h2, h3]
   ·rw [if_pos (by omega), if_pos h2, if_neg (by omega)]; simp [h3]
  ·rw [if_pos (by omega), if_neg h2]; simp [h2]
 ·rw [if_neg (by omega)]; simp [h1]
def kindB (V : Nd → Bool) (LN : ByteArray → Int) (NM : ByteArray → Bool) (FO : ByteArray → ByteArray) (n : Nd) : Bool :=
 if n.f0 = 1 then decide (n.f5.length = 0) && (V n && ((n.f1.f0 != 0) && decide (0 ≤ n.f1.f1)))
 else if n.f0 = 2 then decide (n.f5.length = 0) && placeB n.f2.f0.f0 n.f2.f0.f1
 else if n.f0 = 3 then decide (n.f5.length = 0) && (placeB n.f2.f0.f0 n.f2.f0.f1 && placeB n.f3.f0.f0 n.f3.f0.f1)
 else if n.f0 = 4 then decide (n.f5.length = 1)
 else if n.f0 = 5 then decide (n.f5.length = 2) && decide (0 ≤ LN n.f4)
 else if n.f0 = 6 then NM n.f4 && ((FO n.f4).toList == n.f4.toList)
 else false
theorem Right_calls (V : Nd → Bool) (LN : ByteArray → Int) (NM : ByteArray → Bool) (FO : ByteArray → ByteArray) (kL kN : Nat)
  (hV : ∀ n : Nd, foolscapref04_Right.f n.f1.f0 n.f1.f1 n.f1.f2 n.f1.f3 n.f1.f4 = some (V n)) (hL : ∀ s, foolscapref08_Line.f kL s = some (LN s)) (hN : ∀ s, foolscapref07_Name.f kN s = some (NM s)) (hF : ∀ s, NM s = true → foolscapref04_Fold.f s = some (FO s)) (d : Nat) :
  ∀ (n : Nd) (A : Option Addr) (c : Nat) (w : World) (hd : szN n < d) (hK : KidsC w A c n.f5),
  Calls Tryz.prog 58 #[nodeV n A c] w fun e w' => e = .returned (.bool (allS (fun n => plainB n && kindB V LN NM FO n) n)) ∧ Below w.heap.size w w' := by
 have HV := Aside0.mk hV
 have HLn := Aside0.mk hL
 have HNm := Aside0.mk hN
 have HFo := Aside0.mk hF
 clear hV hL hN hF
 induction d with
 | zero => intro n A c w hd; omega
 | succ d ih =>
  intro n A c w hd hK
  obtain ⟨hlc, hC⟩ := hK
  have hmax := hC.2.1
  have HC := Aside0.mk hC
  clear hC
  have HI := Aside0.mk ih
  clear ih
  have HD := Aside0.mk hd
  clear hd
  generalize hr : allS (fun n => plainB n && kindB V LN NM FO n) n = r
  rw [allS_eq] at hr
  have HR := Aside0.mk hr
  clear hr
  have HPl := Aside0.mk fun w => plain_calls n A c w
  cases hp : plainB n with
  | false =>
   rw [hp] at HPl
   go_enter Tryz.func58, Tryz.ntmps58
   go_wp2_with (go_at_call 81; (with_reducible refine (HPl.out _).mono ?_); rintro e w1 ⟨rfl, hb⟩; have HB1 := Aside0.mk hb; clear hb)
   go_ret
   exact ⟨ret_b (by rw [← HR.out]; simp [hp]), below_step (below_alloc (Below.refl _ _) _) HB1.out⟩
  | true =>
   rw [hp] at HPl
   have HR2 := Aside0.mk (show (kindB V LN NM FO n && allL (fun n => plainB n && kindB V LN NM FO n) n.f5) = r by rw [← HR.out]; simp [hp])
   clear hp HR
   generalize hCC : (fun n => plainB n && kindB V LN NM FO n) = CC at HI HR2
   have HCC := Aside0.mk hCC
   clear hCC
   go_enter Tryz.func58, Tryz.ntmps58
   go_wp2_with (go_at_call 81; (with_reducible refine (HPl.out _).mono ?_); rintro e w1 ⟨rfl, hb⟩; have HBk1 := Aside0.mk (blk_below (show (w.alloc (.cells (nodeA n A c) 44)).heap[w.heap.size]? = some (.cells (nodeA n A c) 44 (0, 0)) by show (w.heap.push _)[w.heap.size]? = _; simp) hb); have HB1 := Aside0.mk (below_step (below_alloc (Below.refl _ _) _) hb); clear hb)
   go_loopw [3] (fun i wr => ∃ (k : Nat), k ≤ n.f5.length ∧ i = .int .i64 k ∧ Aside0 ((kindB V LN NM FO n && allL CC (n.f5.drop k)) = r) ∧ Aside0 (Below w.heap.size w wr) ∧ Aside0 (wr.heap[w.heap.size]? = some (.cells (nodeA n A c) 44 (0, 0)))) (fun i _ => n.f5.length - (intOf i).toNat)
   case atStart => exact ⟨0, by omega, rfl, HR2, HB1, HBk1⟩
   case round =>
    clear HBk1 HB1 HPl HR2
    obtain ⟨k, hk, rfl, HX, HB, HBk⟩ := hrel
    have hc15 : wr.cell? ⟨w.heap.size, 15, none⟩ = some (.slice A n.f5.length c) := (blk_cell HBk.out 15).trans rfl
    by_cases hkl : k < n.f5.length
    ·obtain ⟨ad, A', c', e, hK', g0, g1, g2, g3, g4, g5, g6, g7, g8, g9, g10, g11, g12, g13, g14, g15⟩ := at_kid (Kd.C_below HC.out HB.out) k hkl
     subst e
     have HK' := Aside0.mk hK'
     clear hK'
     have HM := Aside0.mk (List.getElem_mem hkl)
     have HN := Aside0.mk (show allL CC (n.f5.drop k) = (allS CC n.f5[k] && allL CC (n.f5.drop (k + 1))) by rw [List.drop_eq_getElem_cons hkl, allL])
     have HCk := Aside0.mk (HI.out n.f5[k] A' c' wr (by have := kid_lt HM.out; have := HD.out; omega) HK'.out)
     cases hq : allS CC n.f5[k] with
     | false =>
      rw [hq] at HCk HN
      have HX2 := Aside0.mk (show false = r by rw [← HX.out, HN.out]; simp)
      clear hq
      go_wp2_with (go_at_call 58; (with_reducible refine HCk.out.mono ?_); rintro e w1 ⟨rfl, hb⟩; have HB1 := Aside0.mk hb; clear hb)
      go_ret
      exact ⟨ret_b HX2.out, below_step HB.out HB1.out⟩
     | true =>
      rw [hq] at HCk HN
      clear hq
      go_wp2_with (go_at_call 58; (with_reducible refine HCk.out.mono ?_); rintro e w1 ⟨rfl, hb⟩; have HB1 := Aside0.mk hb; clear hb)
      refine ⟨⟨k + 1, by omega, by go_num, ⟨by rw [← HX.out, HN.out]; simp⟩, ⟨below_step HB.out HB1.out⟩, ⟨blk_below HBk.out HB1.out⟩⟩, ?_⟩
      simp [intOf]; omega
    ·have HX2 := Aside0.mk (show kindB V LN NM FO n = r by rw [← HX.out, List.drop_of_length_le (by omega), allL]; simp)
     clear HX HI HC
     have hBk := HBk.out
     have hcl := fun (W : World) (i : Nat) (h : W.heap[w.heap.size]? = some (.cells (nodeA n A c) 44 (0, 0))) => blk_cell h i
     have HVn := Aside0.mk (HV.out n)
     have HL4 := Aside0.mk (HLn.out n.f4)
     have HN4 := Aside0.mk (HNm.out n.f4)
     have HP2 := Aside0.mk (ref_Place_B n.f2.f0.f0 n.f2.f0.f1)
     have HP3 := Aside0.mk (ref_Place_B n.f3.f0.f0 n.f3.f0.f1)
     generalize hvn : V n = vn at HVn
     generalize hln : LN n.f4 = ln at HL4
     generalize hnm : NM n.f4 = nm at HN4
     generalize hp2 : placeB n.f2.f0.f0 n.f2.f0.f1 = p2 at HP2
     generalize hp3 : placeB n.f3.f0.f0 n.f3.f0.f1 = p3 at HP3
     have HXk := Aside0.mk (show (if n.f0 = 1 then decide (n.f5.length = 0) && (vn && ((n.f1.f0 != 0) && decide (0 ≤ n.f1.f1))) else if n.f0 = 2 then decide (n.f5.length = 0) && p2 else if n.f0 = 3 then decide (n.f5.length = 0) && (p2 && p3) else if n.f0 = 4 then decide (n.f5.length = 1) else if n.f0 = 5 then decide (n.f5.length = 2) && decide (0 ≤ ln) else if n.f0 = 6 then nm && ((FO n.f4).toList == n.f4.toList) else false) = r by rw [← HX2.out, ← hvn, ← hln, ← hnm, ← hp2, ← hp3]; rfl)
     have HFn := Aside0.mk (show nm = true → foolscapref04_Fold.f n.f4 = some (FO n.f4) from fun h => HFo.out n.f4 (hnm.trans h))
     clear hvn hln hnm hp2 hp3 HX2
     by_cases k1 : n.f0 = 1
     ·have HXf := Aside0.mk (show (decide (n.f5.length = 0) && (vn && ((n.f1.f0 != 0) && decide (0 ≤ n.f1.f1)))) = r by rw [← HXk.out, if_pos k1])
      clear HXk
      go_wp2_with (go_at_call 82; (with_reducible refine (foolscapref04_Right.calls _ _ _ _ _ _ _ HVn.out).mono ?_); rintro e w1 ⟨rfl, hb⟩; have hB1 := blk_below HBk.out hb; have HB1 := Aside0.mk hb; clear hb)
      all_goals (go_ret; exact ⟨ret_b (by rw [← HXf.out]; simp_all), by first | exact HB.out | exact below_step HB.out HB1.out⟩)
     by_cases k2 : n.f0 = 2
     ·have HXf := Aside0.mk (show (decide (n.f5.length = 0) && p2) = r by rw [← HXk.out, if_neg k1, if_pos k2])
      clear HXk
      go_wp2_with (go_at_call 83; (with_reducible refine (foolscapref05_Place.calls _ _ _ _ HP2.out).mono ?_); rintro e w1 ⟨rfl, hb⟩; have hB1 := blk_below HBk.out hb; have HB1 := Aside0.mk hb; clear hb)
      all_goals (go_ret; exact ⟨ret_b (by rw [← HXf.out]; simp_all), by first | exact HB.out | exact below_step HB.out HB1.out⟩)
     by_cases k3 : n.f0 = 3
     ·have HXf := Aside0.mk (show (decide (n.f5.length = 0) && (p2 && p3)) = r by rw [← HXk.out, if_neg k1, if_neg k2, if_pos k3])
      clear HXk
      go_wp2_with (first
       | (go_at_call 83; (with_reducible refine (foolscapref05_Place.calls _ _ _ _ HP2.out).mono ?_); clear HP2; rintro e w1 ⟨rfl, hb⟩; have hB1 := blk_below HBk.out hb; have HB1 := Aside0.mk hb; clear hb)
       | (go_at_call 83; (with_reducible refine (foolscapref05_Place.calls _ _ _ _ HP3.out).mono ?_); rintro e w2 ⟨rfl, hb⟩; have HB2 := Aside0.mk hb; clear hb))
      all_goals (go_ret; exact ⟨ret_b (by rw [← HXf.out]; simp_all), by first | exact HB.out | exact below_step HB.out HB1.out | exact below_step (below_step HB.out HB1.out) HB2.out⟩)
     by_cases k4 : n.f0 = 4
     ·have HXf := Aside0.mk (show decide (n.f5.length = 1) = r by rw [← HXk.out, if_neg k1, if_neg k2, if_neg k3, if_pos k4])
      clear HXk
      go_wp2
      all_goals (go_ret; exact ⟨ret_b (by rw [← HXf.out]; first | rfl | (simp_all; done) | (rw [Bool.eq_iff_iff]; simp; omega) | (simp_all; omega)), HB.out⟩)
     by_cases k5 : n.f0 = 5
     ·have HXf := Aside0.mk (show (decide (n.f5.length = 2) && decide (0 ≤ ln)) = r by rw [← HXk.out, if_neg k1, if_neg k2, if_neg k3, if_neg k4, if_pos k5])
      clear HXk
      go_wp2_with (go_at_call 84; (with_reducible refine (foolscapref08_Line.calls _ _ _ _ HL4.out).mono ?_); rintro e w1 ⟨rfl, nd, rfl⟩)
      all_goals (go_ret; exact ⟨ret_b (by rw [← HXf.out]; first | rfl | (simp_all; done) | (rw [Bool.eq_iff_iff]; simp; omega) | (simp_all; omega)), by first | exact HB.out | exact pw_below_drewN HB.out _⟩)
     by_cases k6 : n.f0 = 6
     ·have HXf := Aside0.mk (show (nm && ((FO n.f4).toList == n.f4.toList)) = r by rw [← HXk.out, if_neg k1, if_neg k2, if_neg k3, if_neg k4, if_neg k5, if_pos k6])
      clear HXk
      have HBd := Aside0.mk (blk_drew HBk.out)
      have HBw := Aside0.mk (below_drew1 HB.out)
      cases nm with
      | false =>
       go_wp2
       refine start_ (n := 12) (S := (fun w' => w'.heap[w.heap.size]? = some (.cells (nodeA n A c) 44 (0, 0)))) (ds := []) (Array.replicate 12 false) (by kernel_rfl) rfl rfl (blk_drew HBk.out) (fun hHeld => ?_)
       refine with_tabW refRight.tab20 refRight.bits20 (fun HT_ HW_ => ?_)
       refine pz 0 96 HT_ ?_
       refine tz 1 97 HT_ HW_ (hr := (by rintro w' s0; have s14 : w'.cell? ⟨w.heap.size, 14, none⟩ = some (.string n.f4) := (blk_cell s0 14).trans rfl; go_simp; with_reducible rfl)) (hS := hHeld) (h := ?_)
       refine oneI 2 (some 98) HT_ rfl rfl (by kernel_rfl) (by decide) (fun K hK => ?_)
       refine goes_ Tryz.func85 (by kernel_rfl) rfl #[.string n.f4] (by (try simp only [List.map_toArray, List.map_cons, List.map_nil]); first | done | rfl) rfl rfl (by first | rfl | ((try simp only [List.map_toArray, List.map_cons, List.map_nil]); first | done | rfl)) ?_
       with_reducible refine (foolscapref07_Name.calls _ _ _ _ HN4.out).mono ?_
       rintro e w1 ⟨rfl, nd, rfl⟩
       refine ⟨_, rfl, ?_⟩
       refine hK.out _ _ (blk_drewN hHeld _) (fun hHeld => ?_)
       clear hK K
       refine nz 98 ?_
       refine pz 3 99 HT_ ?_; refine uz 4 100 HT_ ?_; refine uz 5 101 HT_ ?_; refine uz 6 102 HT_ ?_; refine uz 7 103 HT_ ?_; refine uz 8 104 HT_ ?_; refine uz 9 105 HT_ ?_; refine pz 10 106 HT_ ?_; refine pz 11 2 HT_ ?_
       refine done_ (done_of HT_.out (by kernel_rfl)) ?_
       go_wp2
       go_ret
       exact ⟨ret_b (by rw [← HXf.out]; rfl), by first | exact HBw.out | exact pw_below_drewN HBw.out _⟩
      | true =>
       have HFq := Aside0.mk (HFn.out rfl)
       go_wp2
       refine start_ (n := 12) (S := (fun w' => w'.heap[w.heap.size]? = some (.cells (nodeA n A c) 44 (0, 0)))) (ds := []) (Array.replicate 12 false) (by kernel_rfl) rfl rfl (blk_drew HBk.out) (fun hHeld => ?_)
       refine with_tabW refRight.tab20 refRight.bits20 (fun HT_ HW_ => ?_)
       refine pz 0 96 HT_ ?_
       refine tz 1 97 HT_ HW_ (hr := (by rintro w' s0; have s14 : w'.cell? ⟨w.heap.size, 14, none⟩ = some (.string n.f4) := (blk_cell s0 14).trans rfl; go_simp; with_reducible rfl)) (hS := hHeld) (h := ?_)
       refine oneI 2 (some 98) HT_ rfl rfl (by kernel_rfl) (by decide) (fun K hK => ?_)
       refine goes_ Tryz.func85 (by kernel_rfl) rfl #[.string n.f4] (by (try simp only [List.map_toArray, List.map_cons, List.map_nil]); first | done | rfl) rfl rfl (by first | rfl | ((try simp only [List.map_toArray, List.map_cons, List.map_nil]); first | done | rfl)) ?_
       with_reducible refine (foolscapref07_Name.calls _ _ _ _ HN4.out).mono ?_
       rintro e w1 ⟨rfl, nd, rfl⟩
       refine ⟨_, rfl, ?_⟩
       refine hK.out _ _ (blk_drewN hHeld _) (fun hHeld => ?_)
       clear hK K
       refine nz 98 ?_
       refine pz 3 99 HT_ ?_; refine pz 4 100 HT_ ?_; refine pz 7 103 HT_ ?_
       refine tz 5 101 HT_ HW_ (hr := (by rintro w' s0; have s14 : w'.cell? ⟨w.heap.size, 14, none⟩ = some (.string n.f4) := (blk_cell s0 14).trans rfl; go_simp; with_reducible rfl)) (hS := hHeld) (h := ?_)
       refine tz 8 104 HT_ HW_ (hr := (by rintro w' s0; have s14 : w'.cell? ⟨w.heap.size, 14, none⟩ = some (.string n.f4) := (blk_cell s0 14).trans rfl; go_simp; with_reducible rfl)) (hS := hHeld) (h := ?_)
       refine oneI 6 (some 102) HT_ rfl rfl (by kernel_rfl) (by decide) (fun K hK => ?_)
       refine goes_ Tryz.func86 (by kernel_rfl) rfl #[.string n.f4] (by (try simp only [List.map_toArray, List.map_cons, List.map_nil]); first | done | rfl) rfl rfl (by first | rfl | ((try simp only [List.map_toArray, List.map_cons, List.map_nil]); first | done | rfl)) ?_
       with_reducible refine (foolscapref04_Fold.calls _ _ _ HFq.out).mono ?_
       rintro e w2 ⟨rfl, hb2⟩
       refine ⟨_, rfl, ?_⟩
       have HB2 := Aside0.mk hb2
       refine hK.out _ _ (blk_below hHeld hb2) (fun hHeld => ?_)
       clear hK K
       refine nz 102 ?_
       refine pz 9 105 HT_ ?_; refine pz 10 106 HT_ ?_; refine pz 11 2 HT_ ?_
       refine done_ (done_of HT_.out (by kernel_rfl)) ?_
       go_wp2
       go_ret
       exact ⟨ret_b (by rw [← HXf.out]; first | rfl | simp), below_step (pw_below_drewN HBw.out _) HB2.out⟩
     ·have HXf := Aside0.mk (show false = r by rw [← HXk.out, if_neg k1, if_neg k2, if_neg k3, if_neg k4, if_neg k5, if_neg k6])
      clear HXk
      go_wp2
      go_ret
      exact ⟨ret_b HXf.out, HB.out⟩
abbrev KidsF (W : World) (b : Nat) (A : Option Addr) (c : Nat) (l : List Nd) : Prop := l.length ≤ c ∧ Kd.F k44 W (fun k => b ≤ k) A l.length l
theorem KidsF.now {W : World} {b : Nat} {A : Option Addr} {c : Nat} {l : List Nd} (h : KidsF W b A c l) : KidsC W A c l := ⟨h.1, Kd.F_now h.2⟩
theorem KidsF.below {W W1 : World} {b : Nat} {A : Option Addr} {c : Nat} {l : List Nd} (h : KidsF W b A c l) (hb : Below W.heap.size W W1) : KidsF W1 b A c l := ⟨h.1, Kd.F_below h.2 hb⟩
def NodeOut (n : Nd) (w : World) (e : Ending) (w' : World) : Prop := ∃ A c, e = .returned (nodeV n A c) ∧ KidsF w' w.heap.size A c n.f5 ∧ Below w.heap.size w w'
def rV (n : Nd) : Bool := (foolscapref04_Right.f n.f1.f0 n.f1.f1 n.f1.f2 n.f1.f3 n.f1.f4).getD false
theorem rV_eq (n : Nd) : foolscapref04_Right.f n.f1.f0 n.f1.f1 n.f1.f2 n.f1.f3 n.f1.f4 = some (rV n) := by
 unfold rV foolscapref04_Right.f foolscapref01_Fits.f
 repeat' split
 all_goals first | rfl | (simp only [Option.bind]; repeat' split <;> rfl)
theorem ite_some {α : Type} {c : Prop} [Decidable c] {a b : Option α} (ha : a.isSome = true) (hb : b.isSome = true) : (if c then a else b).isSome = true := by
 by_cases h : c
 ·rw [if_pos h]; exact ha
 ·rw [if_neg h]; exact hb
def rLN (s : ByteArray) : Int := (foolscapref08_Line.f 2 s).getD 0
theorem rLN_eq (s : ByteArray) : foolscapref08_Line.f 2 s = some (rLN s) := by
 have h : ∃ b, foolscapref08_Line.f 2 s = some b := by
  refine Option.isSome_iff_exists.mp ?_
  unfold foolscapref08_Line.f
  simp only [foolscapref08_Line.j0, foolscapref08_Line.j1]
  repeat' (first | rfl | refine ite_some ?_ ?_)
 obtain ⟨b, hb⟩ := h
 unfold rLN
 rw [hb]; rfl
def rNM (s : ByteArray) : Bool := (foolscapref07_Name.f 30 s).getD false
theorem letter_some (x : Int) : ∃ b, foolscapref07_letter.f x = some b := by
 unfold foolscapref07_letter.f
 repeat' split
 all_goals exact ⟨_, rfl⟩
theorem digit_some (x : Int) : ∃ b, foolscapref07_digit.f x = some b := by
 unfold foolscapref07_digit.f
 repeat' split
 all_goals exact ⟨_, rfl⟩
theorem nameL_some (s : ByteArray) (hs : s.size ≤ 20) : ∀ (k : Nat) (i : Int), 0 ≤ i → i ≤ s.size → (s.size : Int) < i + k → ∃ b, foolscapref07_Name.l0 k s i = some b
 | 0, i, h0, hi, h => by exfalso; omega
 | k + 1, i, h0, hi, h => by
  rw [foolscapref07_Name.l0]
  by_cases h1 : i < (s.size : Int)
  ·rw [if_pos h1, if_pos h0]
   have hw : wrap64 (i + 1) = i + 1 := by unfold wrap64; omega
   obtain ⟨b, hb⟩ := letter_some (bt s i)
   obtain ⟨c, hc⟩ := digit_some (bt s i)
   have ih := nameL_some s hs k (i + 1) (by omega) (by omega) (by omega)
   rw [hb, hw]
   simp only [Option.bind]
   rw [hc]
   simp only
   repeat' split
   all_goals first | exact ih | exact ⟨_, rfl⟩
  ·rw [if_neg h1]; exact ⟨_, rfl⟩
theorem rNM_eq (s : ByteArray) : foolscapref07_Name.f 30 s = some (rNM s) := by
 have h : ∃ b, foolscapref07_Name.f 30 s = some b := by
  unfold foolscapref07_Name.f
  by_cases h1 : (s.size : Int) < 1
  ·rw [if_pos h1]; exact ⟨_, rfl⟩
  ·rw [if_neg h1]
   by_cases h2 : (s.size : Int) > 20
   ·rw [if_pos h2]; exact ⟨_, rfl⟩
   ·rw [if_neg h2, if_pos (by omega)]
    obtain ⟨b, hb⟩ := letter_some (bt s 0)
    rw [hb]
    simp only [Option.bind]
    rw [show (30 : Nat) = 29 + 1 from rfl, foolscapref07_Name.j0]
    split
    ·exact ⟨_, rfl⟩
    ·exact nameL_some s (by omega) 29 0 (by omega) (by omega) (by omega)
 obtain ⟨b, hb⟩ := h
 unfold rNM
 rw [hb]; rfl
theorem rNM_size (s : ByteArray) (h : rNM s = true) : s.size ≤ 20 := by
 by_cases h2 : s.size ≤ 20
 ·exact h2
 ·exfalso
  unfold rNM foolscapref07_Name.f at h
  rw [if_neg (by omega), if_pos (by omega)] at h
  cases h
theorem rFO_eq (s : ByteArray) (h : rNM s = true) : foolscapref04_Fold.f s = some (foldB s) := by
 have := rNM_size s h
 unfold foolscapref04_Fold.f
 rw [if_pos (by omega)]
def rightS (n : Nd) : Bool := allS (fun n => plainB n && kindB rV rLN rNM foldB n) n
theorem Right_is (n : Nd) (A : Option Addr) (c : Nat) (w : World) (hK : KidsC w A c n.f5) : Calls Tryz.prog 58 #[nodeV n A c] w fun e w' => e = .returned (.bool (rightS n)) ∧ Below w.heap.size w w' :=
 Right_calls rV rLN rNM foldB 2 30 rV_eq rLN_eq rNM_eq rFO_eq (szN n + 1) n A c w (Nat.lt_succ_self _) hK
def depthI (n : Nd) : Int := if nodesS n 4096 > 4096 ∨ levelsS n 160 > 160 then 0 else levelsS n 160
def checkI (n : Nd) : Int := if levelsS n 160 > 160 then 6 else if nodesS n 4096 > 4096 then 7 else if rightS n = false then 2 else if levelsS n 160 > 40 then 6 else 0
theorem Depth_calls (n : Nd) (A : Option Addr) (c : Nat) (w : World) (hK : KidsC w A c n.f5) :
  Calls Tryz.prog 33 #[nodeV n A c] w fun e w' => e = .returned (.int .i64 (depthI n)) ∧ Below w.heap.size w w' := by
 have HC := Aside0.mk fun (W : World) (h : Below w.heap.size w W) => count_calls n A c 4096 160 W (hK.below h) (by omega) (by omega) (by omega) (by omega)
 clear hK
 have HD := Aside0.mk (show depthI n = if nodesS n 4096 > 4096 ∨ levelsS n 160 > 160 then 0 else levelsS n 160 from rfl)
 generalize depthI n = r at HD ⊢
 generalize nodesS n 4096 = p at HC HD
 generalize levelsS n 160 = q at HC HD
 go_enter Tryz.func33, Tryz.ntmps33
 go_wp2_with (go_at_call 52; (with_reducible refine (HC.out _ (bel1 _ _)).mono ?_); rintro e w1 ⟨rfl, hb⟩; have HB1 := Aside0.mk (below_step (bel1 _ _) hb); clear hb)
 all_goals (go_ret; exact ⟨ret_i (by rw [HD.out]; split <;> simp_all <;> omega), HB1.out⟩)
theorem Check_calls (n : Nd) (A : Option Addr) (c : Nat) (w : World) (hK : KidsC w A c n.f5) :
  Calls Tryz.prog 37 #[nodeV n A c] w fun e w' => e = .returned (.int .i64 (checkI n)) ∧ Below w.heap.size w w' := by
 have HC := Aside0.mk fun (W : World) (h : Below w.heap.size w W) => count_calls n A c 4096 160 W (hK.below h) (by omega) (by omega) (by omega) (by omega)
 have HR := Aside0.mk fun (W : World) (h : Below w.heap.size w W) => Right_is n A c W (hK.below h)
 clear hK
 have HD := Aside0.mk (show checkI n = if levelsS n 160 > 160 then 6 else if nodesS n 4096 > 4096 then 7 else if rightS n = false then 2 else if levelsS n 160 > 40 then 6 else 0 from rfl)
 generalize checkI n = r at HD ⊢
 generalize nodesS n 4096 = p at HC HD
 generalize levelsS n 160 = q at HC HD
 generalize rightS n = t at HR HD
 go_enter Tryz.func37, Tryz.ntmps37
 go_wp2_with (first
  | (go_at_call 52; (with_reducible refine (HC.out _ (bel1 _ _)).mono ?_); rintro e w1 ⟨rfl, hb⟩; have HB1 := Aside0.mk (below_step (bel1 _ _) hb); have hbk := blk_below (newBlk w (.cells (nodeA n A c) 44)) hb; have hcl := fun i => blk_cell hbk i; clear hb)
  | (go_at_call 58; (with_reducible refine (HR.out _ HB1.out).mono ?_); rintro e w2 ⟨rfl, hb⟩; have HB2 := Aside0.mk hb; clear hb))
 all_goals (go_ret; exact ⟨ret_i (by rw [HD.out]; repeat' split <;> simp_all <;> omega), by first | exact HB1.out | exact below_step HB1.out HB2.out⟩)
abbrev Ce := S41
def zeroV : S37 := ⟨0, 0, ⟨#[]⟩, false, 0⟩
def zeroC : Ce := ⟨⟨0, 0⟩, false, false⟩
def zeroN : Nd := ⟨0, zeroV, zeroC, zeroC, ⟨#[]⟩, []⟩
def refSlid.T5 : Bool × List (List Nat × List Nat) := (true, [([], []), ([], []), ([1], [1]), ([2], [2]), ([0, 3, 0], [0]), ([3, 4, 0, 1, 2, 3, 4], [3])])
def refSlid.B5 : List Nat := [0, 0, 2, 6, 15, 31]
theorem refSlid.bits5 : waitsOk refSlid.T5.2 refSlid.B5 = true := by kernel_rfl
theorem allS_kid {C : Nd → Bool} {n : Nd} (h : allS C n = true) : C n = true ∧ ∀ x ∈ n.f5, allS C x = true := by
 rw [allS_eq, Bool.and_eq_true] at h
 refine ⟨h.1, ?_⟩
 have h2 := h.2
 generalize n.f5 = l at h2
 induction l with
 | nil => intro x hx; cases hx
 | cons y r ih =>
  rw [allL, Bool.and_eq_true] at h2
  intro x hx
  cases hx with
  | head => exact h2.1
  | tail _ hx => exact ih h2.2 x hx
theorem kidsF_nil (W : World) (b : Nat) (A : Option Addr) (c : Nat) : KidsF W b A c [] := ⟨Nat.zero_le _, fun W' _ => ⟨rfl, by simp, fun h => absurd h (Nat.lt_irrefl 0)⟩⟩
theorem newBlk3a (w : World) (o p q : Obj) : (((w.alloc o).alloc p).alloc q).heap[w.heap.size]? = some o := blk_alloc (blk_alloc (newBlk w o) p) q
theorem newBlk3b (w : World) (o p q : Obj) : (((w.alloc o).alloc p).alloc q).heap[w.heap.size + 1]? = some p := blk_alloc (newBlk2 w o p) q
theorem newBlk3c (w : World) (o p q : Obj) : (((w.alloc o).alloc p).alloc q).heap[w.heap.size + 2]? = some q := by
 have h := newBlk2 (w.alloc o) p q
 have e : (w.alloc o).heap.size = w.heap.size + 1 := by simp
 rwa [e] at h
theorem bel3 (w : World) (o p q : Obj) : Below w.heap.size w (((w.alloc o).alloc p).alloc q) := below_alloc (bel2 w o p) q
def moveStep.T6 : Bool × List (List Nat × List Nat) := (true, [([], []), ([0], [0]), ([1], [1]), ([], []), ([3], [3]), ([2, 4], [2, 4]), ([0, 0, 1, 2, 3, 4, 5], [0]), ([6, 5, 0, 1, 2, 3, 4, 5], [5, 6])])
def moveStep.B6 : List Nat := [0, 1, 3, 0, 8, 31, 63, 127]
theorem moveStep.bits6 : waitsOk moveStep.T6.2 moveStep.B6 = true := by kernel_rfl
def moveStep.T7 : Bool × List (List Nat × List Nat) := (true, [([], []), ([0], [0]), ([1], [1]), ([], []), ([3], [3]), ([2, 4], [2, 4])])
def moveStep.B7 : List Nat := [0, 1, 3, 0, 8, 31]
theorem moveStep.bits7 : waitsOk moveStep.T7.2 moveStep.B7 = true := by kernel_rfl
def moveStep.T1 : Bool × List (List Nat × List Nat) := (true, [([], []), ([0], [0]), ([1], [1]), ([], []), ([3], [3]), ([2, 4], [2, 4]), ([0, 0, 1, 2, 3, 4, 5], [0]), ([6, 5, 0, 1, 2, 3, 4, 5], [5, 6])])
def moveStep.B1 : List Nat := [0, 1, 3, 0, 8, 31, 63, 127]
theorem moveStep.bits1 : waitsOk moveStep.T1.2 moveStep.B1 = true := by kernel_rfl
theorem right_of_check {n : Nd} (h : checkI n = 0) : rightS n = true ∧ nodesS n 4096 ≤ 4096 := by
 unfold checkI at h
 by_cases h1 : levelsS n 160 > 160
 ·rw [if_pos h1] at h; omega
 ·rw [if_neg h1] at h
  by_cases h2 : nodesS n 4096 > 4096
  ·rw [if_pos h2] at h; omega
  ·rw [if_neg h2] at h
   by_cases h3 : rightS n = false
   ·rw [if_pos h3] at h; omega
   ·exact ⟨by simpa using h3, by omega⟩
mutual
def cntS : Nd → Nat
 | ⟨_, _, _, _, _, l⟩ => 1 + cntL l
def cntL : List Nd → Nat
 | [] => 0
 | x :: r => cntS x + cntL r
end
mutual
theorem nodesL_ge : ∀ (l : List Nd) (m a : Int), 0 ≤ m → 1 ≤ a → a ≤ m + 1 → a ≤ nodesL l m a
 | [], m, a, _, _, _ => by rw [nodesL]; omega
 | x :: r, m, a, h0, h1, h2 => by
  rw [nodesL]
  split
  ·have := nodesS_bd x (m - a) (by omega)
   have := nodesL_ge r m (a + nodesS x (m - a)) h0 (by omega) (by omega)
   omega
  ·omega
end
mutual
theorem nodes_cnt : ∀ (n : Nd) (m : Int), 0 ≤ m → nodesS n m ≤ m → nodesS n m = (cntS n : Int)
 | ⟨a, v, c, t, s, l⟩, m, h0, h => by
  rw [nodesS] at h ⊢
  have := nodes_cntL l m 1 h0 (by omega) (by omega) h
  rw [cntS]
  omega
theorem nodes_cntL : ∀ (l : List Nd) (m a : Int), 0 ≤ m → 1 ≤ a → a ≤ m + 1 → nodesL l m a ≤ m → nodesL l m a = a + (cntL l : Int)
 | [], m, a, _, _, _, _ => by rw [nodesL, cntL]; omega
 | x :: r, m, a, h0, h1, h2, h => by
  rw [nodesL] at h ⊢
  by_cases q : a ≤ m
  ·rw [if_pos q] at h ⊢
   have b := nodesS_bd x (m - a) (by omega)
   have g := nodesL_ge r m (a + nodesS x (m - a)) h0 (by omega) (by omega)
   have c := nodes_cnt x (m - a) (by omega) (by omega)
   have d := nodes_cntL r m (a + nodesS x (m - a)) h0 (by omega) (by omega) h
   rw [cntL]
   omega
  ·rw [if_neg q] at h; omega
end
theorem deep_calls (n : Nd) (A : Option Addr) (c : Nat) (w : World) (hK : KidsC w A c n.f5) :
  Calls Tryz.prog 14 #[nodeV n A c] w fun e w' => e = .returned (.bool (depthI n == 0)) ∧ Below w.heap.size w w' := by
 have H := Aside0.mk fun (W : World) (h : Below w.heap.size w W) => Depth_calls n A c W (hK.below h)
 clear hK
 generalize depthI n = d at H ⊢
 go_enter Tryz.func14, Tryz.ntmps14
 go_wp2_with (go_at_call 33; (with_reducible refine (H.out _ (bel1 w _)).mono ?_); rintro e w1 ⟨rfl, hb⟩; have HB1 := Aside0.mk (below_step (bel1 w _) hb); clear hb)
 go_ret
 exact ⟨rfl, HB1.out⟩
end Go.Proofs.YtopdjokncbpghaaGreatDoor.Pr
end
