/-
  Lemmas for the law FFindsFChecksFRectsFKids.
-/
import Derived.Test.YtopdjokncbpghaaGreatDoorSFFindsFChecksFRectsFKids34
import Derived.Test.YtopdjokncbpghaaGreatDoorSFFindsFChecksFRectsFKids15
import Derived.Test.YtopdjokncbpghaaGreatDoorSFFindsFChecksFRectsFKids31
set_option maxHeartbeats 8000000
set_option maxRecDepth 100000
set_option linter.unusedVariables false
set_option linter.unusedSimpArgs false
section
namespace Go.Proofs.YtopdjokncbpghaaGreatDoor.Pr
open Go.RowKit Go.Proofs.YtopdjokncbpghaaGreatDoorW.PrintWords Go.Proofs.YtopdjokncbpghaaGreatDoorW.PrintLast Go.Proofs.YtopdjokncbpghaaGreatDoorW.PrintMore
theorem refCalls_calls (T : ByteArray → Option FRow) (w0 : World) (HT : Aside0 (∀ s f, T s = some f → 0 ≤ f.lo ∧ (f.hi ≤ 0 ∨ 1 ≤ f.wants.length) ∧ f.wants.length ≤ 10)) (HFi : Aside0 (∀ (s : ByteArray) W, Calls Tryz.prog 11 #[.string s] W (FindOut s (T s) W))) (d : Nat) : ∀ (n : Nd) (A : Option Addr) (c : Nat) (w : World) (hd : szN n < d) (hK : KidsC w A c n.f5),
  Calls Tryz.prog 38 #[nodeV n A c] w fun e w' => e = .returned (.int .i64 (callsS (callE T lostR) n)) ∧ Below w.heap.size w w' := by
 induction d with
 | zero => intro n A c w hd; omega
 | succ d ih =>
  intro n A c w hd hK
  obtain ⟨hlc, hC⟩ := hK
  have hmax := hC.2.1
  have HC := Aside0.mk hC
  have HI : Aside0 (∀ (m : Nd) (A_ : Option Addr) (c_ : Nat) W, szN m < d → KidsC W A_ c_ m.f5 → Below w.heap.size w W → Calls Tryz.prog 38 #[nodeV m A_ c_] W fun e w' => e = .returned (.int .i64 (callsS (callE T lostR) m)) ∧ Below W.heap.size W w') := ⟨fun m A_ c_ W h1 h2 _ => ih m A_ c_ W h1 h2⟩
  have HD := Aside0.mk hd
  clear hC ih hd
  have HR := Aside0.mk (callsS_eq (callE T lostR) n)
  have B1 := Aside0.mk (newBlk w (.cells (nodeA n A c) 44))
  generalize callsS (callE T lostR) n = r at HR ⊢
  have hb1 := fun (i : Nat) => blk_cell (newBlk w (.cells (nodeA n A c) 44)) i
  by_cases h6 : n.f0 = 6
  ·have hT := HT.out n.f4
   have hE : callE T lostR n = calledR lostR (T n.f4) n.f5 := by unfold callE; rw [if_pos h6]
   rw [hE] at HR
   cases hq : T n.f4 with
   | none =>
    rw [hq] at HR
    have HFn : Aside0 (∀ W, Calls Tryz.prog 11 #[.string n.f4] W (FormOut (⟨#[]⟩ : ByteArray) 0 0 [] 8 W)) := ⟨fun W => by have := HFi.out n.f4 W; rw [hq] at this; exact this⟩
    have HR8 : Aside0 (r = 8) := ⟨HR.out.trans (by simp [calledR])⟩
    clear HR hT hE hq
    go_enter Tryz.func38, Tryz.ntmps38
    go_wp2_with (first
     | (go_at_call 11; (with_reducible refine (HFn.out _).mono ?_); rintro e w1 ⟨A2, c2, rfl, hle2, hC2, hb⟩; have HB1 := Aside0.mk (below_step (bel1 w _) hb); have B2 := Aside0.mk (blk_below B1.out hb); have C2 := Aside0.mk hC2; clear hb hb1 hC2 B1)
     | ((with_reducible refine gate_store (t := 24) (p := 3) (v := .tmp 16) rfl ?_); refine wpRowSt rfl 24 (.tmp 3) (.tmp 16) rfl (w1.heap.size) (#[.string (⟨#[]⟩ : ByteArray), .int .i64 0, .int .i64 0, .slice A2 0 c2]) rfl rfl 24 _ (newBlk w1 _) (by kernel_rfl) rfl rfl ?_; have F3 := Aside0.mk (setRow_heap _ _ _ (#[.string (⟨#[]⟩ : ByteArray), .int .i64 0, .int .i64 0, .slice A2 0 c2]) _ _ (newBlk w1 (.cells #[.string ⟨#[]⟩, .int .i64 0, .int .i64 0, .slice none 0 0] 24))); have N3 := Aside0.mk (rowNew B2.out (.cells #[.string ⟨#[]⟩, .int .i64 0, .int .i64 0, .slice none 0 0] 24) (#[.string (⟨#[]⟩ : ByteArray), .int .i64 0, .int .i64 0, .slice A2 0 c2])); have HB3 := Aside0.mk (rowBelow (below_alloc HB1.out (.cells #[.string ⟨#[]⟩, .int .i64 0, .int .i64 0, .slice none 0 0] 24)) HB1.out.size (#[.string (⟨#[]⟩ : ByteArray), .int .i64 0, .int .i64 0, .slice A2 0 c2])); have C3 := Aside0.mk (Kd.C_below C2.out (rowBelow (bel1 w1 (.cells #[.string ⟨#[]⟩, .int .i64 0, .int .i64 0, .slice none 0 0] 24)) (Nat.le_refl _) (#[.string (⟨#[]⟩ : ByteArray), .int .i64 0, .int .i64 0, .slice A2 0 c2]))); generalize ((w1.alloc (.cells #[.string ⟨#[]⟩, .int .i64 0, .int .i64 0, .slice none 0 0] 24)).setRow w1.heap.size (#[.string (⟨#[]⟩ : ByteArray), .int .i64 0, .int .i64 0, .slice A2 0 c2])) = w3 at F3 N3 HB3 C3 ⊢; have hf3 := fun i => blk_cell F3.out i; have hn3 := fun i => blk_cell N3.out i; clear B2 HB1 C2))
    go_ret
    exact ⟨ret_i HR8.out.symm, HB3.out⟩
   | some f =>
    rw [hq] at HR
    obtain ⟨h0, h1, h2⟩ := hT f hq
    have HFn : Aside0 (∀ W, Calls Tryz.prog 11 #[.string n.f4] W (FormOut n.f4 f.lo f.hi f.wants 0 W)) := ⟨fun W => by have := HFi.out n.f4 W; rw [hq] at this; exact this⟩
    obtain ⟨lo, hi, W⟩ := f
    simp only at h0 h1 h2 HFn
    have h6b : (n.f0 == 6) = true := by simp [h6]
    clear hT hE hq h6
    by_cases c1 : (n.f5.length : Int) < lo
    ·have HR8 : Aside0 (r = 10) := ⟨HR.out.trans (by unfold calledR; simp [c1])⟩
     have c1b : decide ((n.f5.length : Int) < lo) = true := decide_eq_true c1
     clear HR
     go_enter Tryz.func38, Tryz.ntmps38
     go_wp2_with (first
      | (go_at_call 11; (with_reducible refine (HFn.out _).mono ?_); rintro e w1 ⟨A2, c2, rfl, hle2, hC2, hb⟩; have HB1 := Aside0.mk (below_step (bel1 w _) hb); have B2 := Aside0.mk (blk_below B1.out hb); have C2 := Aside0.mk hC2; clear hb hb1 hC2 B1)
      | ((with_reducible refine gate_store (t := 24) (p := 3) (v := .tmp 16) rfl ?_); refine wpRowSt rfl 24 (.tmp 3) (.tmp 16) rfl (w1.heap.size) (#[.string (n.f4), .int .i64 lo, .int .i64 hi, .slice A2 W.length c2]) rfl rfl 24 _ (newBlk w1 _) (by kernel_rfl) rfl rfl ?_; have F3 := Aside0.mk (setRow_heap _ _ _ (#[.string (n.f4), .int .i64 lo, .int .i64 hi, .slice A2 W.length c2]) _ _ (newBlk w1 (.cells #[.string ⟨#[]⟩, .int .i64 0, .int .i64 0, .slice none 0 0] 24))); have N3 := Aside0.mk (rowNew B2.out (.cells #[.string ⟨#[]⟩, .int .i64 0, .int .i64 0, .slice none 0 0] 24) (#[.string (n.f4), .int .i64 lo, .int .i64 hi, .slice A2 W.length c2])); have HB3 := Aside0.mk (rowBelow (below_alloc HB1.out (.cells #[.string ⟨#[]⟩, .int .i64 0, .int .i64 0, .slice none 0 0] 24)) HB1.out.size (#[.string (n.f4), .int .i64 lo, .int .i64 hi, .slice A2 W.length c2])); have C3 := Aside0.mk (Kd.C_below C2.out (rowBelow (bel1 w1 (.cells #[.string ⟨#[]⟩, .int .i64 0, .int .i64 0, .slice none 0 0] 24)) (Nat.le_refl _) (#[.string (n.f4), .int .i64 lo, .int .i64 hi, .slice A2 W.length c2]))); generalize ((w1.alloc (.cells #[.string ⟨#[]⟩, .int .i64 0, .int .i64 0, .slice none 0 0] 24)).setRow w1.heap.size (#[.string (n.f4), .int .i64 lo, .int .i64 hi, .slice A2 W.length c2])) = w3 at F3 N3 HB3 C3 ⊢; have hf3 := fun i => blk_cell F3.out i; have hn3 := fun i => blk_cell N3.out i; clear B2 HB1 C2))
     go_ret
     exact ⟨ret_i HR8.out.symm, HB3.out⟩
    ·have c1b : decide ((n.f5.length : Int) < lo) = false := decide_eq_false c1
     by_cases c2_ : (n.f5.length : Int) > hi
     ·have HR8 : Aside0 (r = 10) := ⟨HR.out.trans (by unfold calledR; simp [c2_])⟩
      clear HR
      go_enter Tryz.func38, Tryz.ntmps38
      go_wp2_with (first
       | (go_at_call 11; (with_reducible refine (HFn.out _).mono ?_); rintro e w1 ⟨A2, c2, rfl, hle2, hC2, hb⟩; have HB1 := Aside0.mk (below_step (bel1 w _) hb); have B2 := Aside0.mk (blk_below B1.out hb); have C2 := Aside0.mk hC2; clear hb hb1 hC2 B1)
       | ((with_reducible refine gate_store (t := 24) (p := 3) (v := .tmp 16) rfl ?_); refine wpRowSt rfl 24 (.tmp 3) (.tmp 16) rfl (w1.heap.size) (#[.string (n.f4), .int .i64 lo, .int .i64 hi, .slice A2 W.length c2]) rfl rfl 24 _ (newBlk w1 _) (by kernel_rfl) rfl rfl ?_; have F3 := Aside0.mk (setRow_heap _ _ _ (#[.string (n.f4), .int .i64 lo, .int .i64 hi, .slice A2 W.length c2]) _ _ (newBlk w1 (.cells #[.string ⟨#[]⟩, .int .i64 0, .int .i64 0, .slice none 0 0] 24))); have N3 := Aside0.mk (rowNew B2.out (.cells #[.string ⟨#[]⟩, .int .i64 0, .int .i64 0, .slice none 0 0] 24) (#[.string (n.f4), .int .i64 lo, .int .i64 hi, .slice A2 W.length c2])); have HB3 := Aside0.mk (rowBelow (below_alloc HB1.out (.cells #[.string ⟨#[]⟩, .int .i64 0, .int .i64 0, .slice none 0 0] 24)) HB1.out.size (#[.string (n.f4), .int .i64 lo, .int .i64 hi, .slice A2 W.length c2])); have C3 := Aside0.mk (Kd.C_below C2.out (rowBelow (bel1 w1 (.cells #[.string ⟨#[]⟩, .int .i64 0, .int .i64 0, .slice none 0 0] 24)) (Nat.le_refl _) (#[.string (n.f4), .int .i64 lo, .int .i64 hi, .slice A2 W.length c2]))); generalize ((w1.alloc (.cells #[.string ⟨#[]⟩, .int .i64 0, .int .i64 0, .slice none 0 0] 24)).setRow w1.heap.size (#[.string (n.f4), .int .i64 lo, .int .i64 hi, .slice A2 W.length c2])) = w3 at F3 N3 HB3 C3 ⊢; have hf3 := fun i => blk_cell F3.out i; have hn3 := fun i => blk_cell N3.out i; clear B2 HB1 C2))
      go_ret
      exact ⟨ret_i HR8.out.symm, HB3.out⟩
     ·have HR2 : Aside0 (r = if argsL lostR W (n.f5.drop 0) 0 = true then 2 else callsL (callE T lostR) n.f5) := ⟨HR.out.trans (by rw [show calledR lostR (some (⟨lo, hi, W⟩ : FRow)) n.f5 = if argsL lostR W n.f5 0 = true then 2 else 0 by unfold calledR; simp only; rw [if_neg (by omega)]]; rw [List.drop_zero]; by_cases z : argsL lostR W n.f5 0 = true <;> simp [z])⟩
      clear HR
      go_enter Tryz.func38, Tryz.ntmps38
      go_wp2_with (first
       | (go_at_call 11; (with_reducible refine (HFn.out _).mono ?_); rintro e w1 ⟨A2, c2, rfl, hle2, hC2, hb⟩; have HB1 := Aside0.mk (below_step (bel1 w _) hb); have B2 := Aside0.mk (blk_below B1.out hb); have C2 := Aside0.mk hC2; clear hb hb1 hC2 B1)
       | ((with_reducible refine gate_store (t := 24) (p := 3) (v := .tmp 16) rfl ?_); refine wpRowSt rfl 24 (.tmp 3) (.tmp 16) rfl (w1.heap.size) (#[.string (n.f4), .int .i64 lo, .int .i64 hi, .slice A2 W.length c2]) rfl rfl 24 _ (newBlk w1 _) (by kernel_rfl) rfl rfl ?_; have F3 := Aside0.mk (setRow_heap _ _ _ (#[.string (n.f4), .int .i64 lo, .int .i64 hi, .slice A2 W.length c2]) _ _ (newBlk w1 (.cells #[.string ⟨#[]⟩, .int .i64 0, .int .i64 0, .slice none 0 0] 24))); have N3 := Aside0.mk (rowNew B2.out (.cells #[.string ⟨#[]⟩, .int .i64 0, .int .i64 0, .slice none 0 0] 24) (#[.string (n.f4), .int .i64 lo, .int .i64 hi, .slice A2 W.length c2])); have HB3 := Aside0.mk (rowBelow (below_alloc HB1.out (.cells #[.string ⟨#[]⟩, .int .i64 0, .int .i64 0, .slice none 0 0] 24)) HB1.out.size (#[.string (n.f4), .int .i64 lo, .int .i64 hi, .slice A2 W.length c2])); have C3 := Aside0.mk (Kd.C_below C2.out (rowBelow (bel1 w1 (.cells #[.string ⟨#[]⟩, .int .i64 0, .int .i64 0, .slice none 0 0] 24)) (Nat.le_refl _) (#[.string (n.f4), .int .i64 lo, .int .i64 hi, .slice A2 W.length c2]))); generalize ((w1.alloc (.cells #[.string ⟨#[]⟩, .int .i64 0, .int .i64 0, .slice none 0 0] 24)).setRow w1.heap.size (#[.string (n.f4), .int .i64 lo, .int .i64 hi, .slice A2 W.length c2])) = w3 at F3 N3 HB3 C3 ⊢; have hf3 := fun i => blk_cell F3.out i; have hn3 := fun i => blk_cell N3.out i; clear B2 HB1 C2))
      go_loopw [5] (fun i wr => ∃ (q : Nat), q ≤ n.f5.length ∧ i = .int .i64 q ∧ Aside0 (r = if argsL lostR W (n.f5.drop q) q = true then 2 else callsL (callE T lostR) n.f5) ∧ Aside0 (Below w.heap.size w wr) ∧ Aside0 (wr.heap[w.heap.size]? = some (.cells (nodeA n A c) 44 (0, 0))) ∧ Aside0 (wr.heap[w1.heap.size]? = some (.cells #[.string n.f4, .int .i64 lo, .int .i64 hi, .slice A2 W.length c2] 24 (0, 0))) ∧ Aside0 (Kd.C (Kd.int .i64) wr A2 W.length W)) (fun i _ => n.f5.length - (intOf i).toNat)
      case atStart => exact ⟨0, by omega, rfl, HR2, HB3, N3, F3, C3⟩
      case round =>
       clear HR2 HB3 N3 F3 C3 hf3 hn3
       obtain ⟨q, hk, rfl, HX, HB, HBk, HFk, HCk⟩ := hrel
       have hc15 : wr.cell? ⟨w.heap.size, 15, none⟩ = some (.slice A n.f5.length c) := (blk_cell HBk.out 15).trans rfl
       have hc3 : wr.cell? ⟨w1.heap.size, 3, none⟩ = some (.slice A2 W.length c2) := (blk_cell HFk.out 3).trans rfl
       by_cases hkl : q < n.f5.length
       ·have hW1 : 1 ≤ W.length := by omega
        have hw1 : wrap64 ((W.length : Int) - 1) = ((W.length - 1 : Nat) : Int) := by unfold wrap64; omega
        obtain ⟨ix, hix⟩ : ∃ ix : Nat, ix = min q (W.length - 1) := ⟨_, rfl⟩
        have hm1 : min (q : Int) ((W.length - 1 : Nat) : Int) = (ix : Int) := by omega
        have hm2 : (if ((W.length - 1 : Nat) : Int) < (q : Int) then ((W.length - 1 : Nat) : Int) else (q : Int)) = (ix : Int) := by split <;> omega
        have hm3 : (if (q : Int) < ((W.length - 1 : Nat) : Int) then (q : Int) else ((W.length - 1 : Nat) : Int)) = (ix : Int) := by split <;> omega
        have hm4 : min (q : Int) ((W.length : Int) - 1) = (ix : Int) := by omega
        have hmt : (min (q : Int) ((W.length : Int) - 1)).toNat = ix := by omega
        have hil : ix < W.length := by omega
        obtain ⟨ad2, e2, v0⟩ := Kd.at_int HCk.out (ix : Int) (by omega) (by omega)
        subst e2
        rw [rd_wants, Int.toNat_natCast] at v0
        obtain ⟨ad, A', c', e, hK', hCA⟩ := kid_at (Kd.C_below HC.out HB.out) q hkl
        subst e
        have g0 : wr.cell? (ad.add (q * 16)) = some (.int .i64 n.f5[q].f0) := by
         have h := hCA 0 _ rfl
         rwa [show ∀ p : Addr, p.add 0 = p from fun p => by unfold Addr.add; simp] at h
        have HK' := Aside0.mk hK'
        have HCA := Aside0.mk hCA
        clear hK' hCA
        have HA : Aside0 (argsL lostR W (n.f5.drop q) q = ((W.getD ix 0 == 2 && (!(rgB n.f5[q]) && !(lostR n.f5[q]))) || argsL lostR W (n.f5.drop (q + 1)) (q + 1))) := ⟨by rw [List.drop_eq_getElem_cons hkl, argsL, hix]⟩
        have HLo : Aside0 (Calls Tryz.prog 59 #[nodeV n.f5[q] A' c'] wr fun e w' => e = .returned (.bool (lostR n.f5[q])) ∧ Below wr.heap.size wr w') := ⟨lostR_calls _ _ _ _ HK'.out⟩
        generalize W.getD ix 0 = v at v0 HA
        clear hix
        by_cases hv : v = 2
        ·have hvb : (v == 2) = true := by simp [hv]
         by_cases k2 : n.f5[q].f0 = 2
         ·have k2b : (n.f5[q].f0 != 2) = false := by simp [k2]
          have HN : Aside0 ((if argsL lostR W (n.f5.drop q) q = true then 2 else callsL (callE T lostR) n.f5) = if argsL lostR W (n.f5.drop (q + 1)) (q + 1) = true then 2 else callsL (callE T lostR) n.f5) := ⟨by rw [HA.out]; unfold rgB; simp [k2]⟩
          clear k2 HA hv
          go_wp2
          go_roundw
          case rel => exact ⟨q + 1, by omega, by go_num, ⟨HX.out.trans HN.out⟩, ⟨HB.out⟩, ⟨HBk.out⟩, ⟨HFk.out⟩, ⟨HCk.out⟩⟩
          case measure => simp [intOf]; omega
         ·have k2b : (n.f5[q].f0 != 2) = true := by simp [k2]
          by_cases k3 : n.f5[q].f0 = 3
          ·have k3b : (n.f5[q].f0 != 3) = false := by simp [k3]
           have HN : Aside0 ((if argsL lostR W (n.f5.drop q) q = true then 2 else callsL (callE T lostR) n.f5) = if argsL lostR W (n.f5.drop (q + 1)) (q + 1) = true then 2 else callsL (callE T lostR) n.f5) := ⟨by rw [HA.out]; unfold rgB; simp [k3]⟩
           clear k2 k3 HA hv
           go_wp2
           go_roundw
           case rel => exact ⟨q + 1, by omega, by go_num, ⟨HX.out.trans HN.out⟩, ⟨HB.out⟩, ⟨HBk.out⟩, ⟨HFk.out⟩, ⟨HCk.out⟩⟩
           case measure => simp [intOf]; omega
          ·have k3b : (n.f5[q].f0 != 3) = true := by simp [k3]
           have hrg : rgB n.f5[q] = false := by unfold rgB; simp [k2, k3]
           rw [hrg] at HA
           generalize lostR n.f5[q] = z at HA HLo
           cases z with
           | true =>
            have HN : Aside0 ((if argsL lostR W (n.f5.drop q) q = true then 2 else callsL (callE T lostR) n.f5) = if argsL lostR W (n.f5.drop (q + 1)) (q + 1) = true then 2 else callsL (callE T lostR) n.f5) := ⟨by rw [HA.out]; simp⟩
            clear k2 k3 HA hv hrg
            go_wp2_with (first
             | ((with_reducible refine gate_dst (N := 77) rfl ?_); (refine gate_guard (by rfl) ?_; dsimp only); refine wpLdAt 77 rfl rfl 44 (.tmp 76) rfl (ad.add (q * 16)) rfl _ (nodeA n.f5[q] A' c') HCA.out Tryz.underlying44 rfl (by kernel_rfl) ?_)
             | (go_at_call 59; (with_reducible refine (HLo.out.mono ?_)); rintro e w4 ⟨rfl, hb⟩; have HB4 := Aside0.mk hb; clear hb))
            go_roundw
            case rel => exact ⟨q + 1, by omega, by go_num, ⟨HX.out.trans HN.out⟩, ⟨below_step HB.out HB4.out⟩, ⟨blk_below HBk.out HB4.out⟩, ⟨blk_below HFk.out HB4.out⟩, ⟨Kd.C_below HCk.out HB4.out⟩⟩
            case measure => simp [intOf]; omega
           | false =>
            have HN : Aside0 ((if argsL lostR W (n.f5.drop q) q = true then 2 else callsL (callE T lostR) n.f5) = 2) := ⟨by rw [HA.out, hv]; simp⟩
            clear k2 k3 HA hv hrg
            go_wp2_with (first
             | ((with_reducible refine gate_dst (N := 77) rfl ?_); (refine gate_guard (by rfl) ?_; dsimp only); refine wpLdAt 77 rfl rfl 44 (.tmp 76) rfl (ad.add (q * 16)) rfl _ (nodeA n.f5[q] A' c') HCA.out Tryz.underlying44 rfl (by kernel_rfl) ?_)
             | (go_at_call 59; (with_reducible refine (HLo.out.mono ?_)); rintro e w4 ⟨rfl, hb⟩; have HB4 := Aside0.mk hb; clear hb))
            go_ret
            exact ⟨ret_i (HX.out.trans HN.out).symm, below_step HB.out HB4.out⟩
        ·have hvb : (v == 2) = false := by simp [hv]
         have HN : Aside0 ((if argsL lostR W (n.f5.drop q) q = true then 2 else callsL (callE T lostR) n.f5) = if argsL lostR W (n.f5.drop (q + 1)) (q + 1) = true then 2 else callsL (callE T lostR) n.f5) := ⟨by rw [HA.out]; simp [hv]⟩
         clear HA hv
         go_wp2
         go_roundw
         case rel => exact ⟨q + 1, by omega, by go_num, ⟨HX.out.trans HN.out⟩, ⟨HB.out⟩, ⟨HBk.out⟩, ⟨HFk.out⟩, ⟨HCk.out⟩⟩
         case measure => simp [intOf]; omega
       ·have HS : Aside0 (r = callsL (callE T lostR) (n.f5.drop 0)) := ⟨HX.out.trans (by rw [List.drop_of_length_le (by omega)]; simp [argsL])⟩
        clear HX
        go_wp2
        go_loopw [7] (fun i wr => ∃ (q : Nat), q ≤ n.f5.length ∧ i = .int .i64 q ∧ Aside0 (r = callsL (callE T lostR) (n.f5.drop q)) ∧ Aside0 (Below w.heap.size w wr) ∧ Aside0 (wr.heap[w.heap.size]? = some (.cells (nodeA n A c) 44 (0, 0)))) (fun i _ => n.f5.length - (intOf i).toNat)
        case atStart => exact ⟨0, by omega, rfl, HS, HB, HBk⟩
        case round =>
         clear HS HB HBk HFk HCk hc15 hc3
         obtain ⟨q, hk, rfl, HX, HB, HBk⟩ := hrel
         have hc15 : wr.cell? ⟨w.heap.size, 15, none⟩ = some (.slice A n.f5.length c) := (blk_cell HBk.out 15).trans rfl
         by_cases hkl : q < n.f5.length
         ·obtain ⟨ad, A', c', e, hK', hCA⟩ := kid_at (Kd.C_below HC.out HB.out) q hkl
          subst e
          have HK' := Aside0.mk hK'
          have HCA := Aside0.mk hCA
          clear hK' hCA
          have HN := Aside0.mk (show callsL (callE T lostR) (n.f5.drop q) = if callsS (callE T lostR) n.f5[q] = 0 then callsL (callE T lostR) (n.f5.drop (q + 1)) else callsS (callE T lostR) n.f5[q] by rw [List.drop_eq_getElem_cons hkl, callsL])
          have HCk := Aside0.mk (HI.out n.f5[q] A' c' wr (by have := kid_lt (List.getElem_mem hkl); have := HD.out; omega) HK'.out HB.out)
          generalize callsS (callE T lostR) n.f5[q] = v at HN HCk
          by_cases hv : v = 0
          ·subst hv
           rw [if_pos rfl] at HN
           go_wp2_with (first
            | ((with_reducible refine gate_dst (N := 92) rfl ?_); refine wpLdAt 92 rfl rfl 44 (.tmp 91) rfl (ad.add (q * 16)) rfl _ (nodeA n.f5[q] A' c') HCA.out Tryz.underlying44 rfl (by kernel_rfl) ?_)
            | (go_at_call 38; (with_reducible refine HCk.out.mono ?_); rintro e w1 ⟨rfl, hb⟩; have HB1 := Aside0.mk hb; clear hb))
           go_roundw
           case rel => exact ⟨q + 1, by omega, by go_num, ⟨HX.out.trans HN.out⟩, ⟨below_step HB.out HB1.out⟩, ⟨blk_below HBk.out HB1.out⟩⟩
           case measure => simp [intOf]; omega
          ·rw [if_neg hv] at HN
           have hv2 : (v != 0) = true := by simp [hv]
           go_wp2_with (first
            | ((with_reducible refine gate_dst (N := 92) rfl ?_); refine wpLdAt 92 rfl rfl 44 (.tmp 91) rfl (ad.add (q * 16)) rfl _ (nodeA n.f5[q] A' c') HCA.out Tryz.underlying44 rfl (by kernel_rfl) ?_)
            | (go_at_call 38; (with_reducible refine HCk.out.mono ?_); rintro e w1 ⟨rfl, hb⟩; have HB1 := Aside0.mk hb; clear hb))
           go_ret
           exact ⟨ret_i (HX.out.trans HN.out).symm, below_step HB.out HB1.out⟩
         ·have HN := Aside0.mk (show callsL (callE T lostR) (n.f5.drop q) = 0 by rw [List.drop_of_length_le (by omega), callsL])
          go_wp2
          go_ret
          exact ⟨ret_i (HX.out.trans HN.out).symm, HB.out⟩
  ·have hE : callE T lostR n = 0 := by unfold callE; rw [if_neg h6]
   have HS : Aside0 (r = callsL (callE T lostR) (n.f5.drop 0)) := ⟨by rw [HR.out, if_pos hE]; rfl⟩
   have h6b : (n.f0 == 6) = false := by simp [h6]
   clear hE HR
   go_enter Tryz.func38, Tryz.ntmps38
   go_wp2
   go_loopw [7] (fun i wr => ∃ (q : Nat), q ≤ n.f5.length ∧ i = .int .i64 q ∧ Aside0 (r = callsL (callE T lostR) (n.f5.drop q)) ∧ Aside0 (Below w.heap.size w wr) ∧ Aside0 (wr.heap[w.heap.size]? = some (.cells (nodeA n A c) 44 (0, 0)))) (fun i _ => n.f5.length - (intOf i).toNat)
   case atStart => exact ⟨0, by omega, rfl, HS, ⟨bel1 w _⟩, ⟨newBlk w _⟩⟩
   case round =>
    clear hb1 HS
    obtain ⟨q, hk, rfl, HX, HB, HBk⟩ := hrel
    have hc15 : wr.cell? ⟨w.heap.size, 15, none⟩ = some (.slice A n.f5.length c) := (blk_cell HBk.out 15).trans rfl
    by_cases hkl : q < n.f5.length
    ·obtain ⟨ad, A', c', e, hK', hCA⟩ := kid_at (Kd.C_below HC.out HB.out) q hkl
     subst e
     have HK' := Aside0.mk hK'
     have HCA := Aside0.mk hCA
     clear hK' hCA
     have HN := Aside0.mk (show callsL (callE T lostR) (n.f5.drop q) = if callsS (callE T lostR) n.f5[q] = 0 then callsL (callE T lostR) (n.f5.drop (q + 1)) else callsS (callE T lostR) n.f5[q] by rw [List.drop_eq_getElem_cons hkl, callsL])
     have HCk := Aside0.mk (HI.out n.f5[q] A' c' wr (by have := kid_lt (List.getElem_mem hkl); have := HD.out; omega) HK'.out HB.out)
     generalize callsS (callE T lostR) n.f5[q] = v at HN HCk
     by_cases hv : v = 0
     ·subst hv
      rw [if_pos rfl] at HN
      go_wp2_with (first
       | ((with_reducible refine gate_dst (N := 92) rfl ?_); refine wpLdAt 92 rfl rfl 44 (.tmp 91) rfl (ad.add (q * 16)) rfl _ (nodeA n.f5[q] A' c') HCA.out Tryz.underlying44 rfl (by kernel_rfl) ?_)
       | (go_at_call 38; (with_reducible refine HCk.out.mono ?_); rintro e w1 ⟨rfl, hb⟩; have HB1 := Aside0.mk hb; clear hb))
      go_roundw
      case rel => exact ⟨q + 1, by omega, by go_num, ⟨HX.out.trans HN.out⟩, ⟨below_step HB.out HB1.out⟩, ⟨blk_below HBk.out HB1.out⟩⟩
      case measure => simp [intOf]; omega
     ·rw [if_neg hv] at HN
      have hv2 : (v != 0) = true := by simp [hv]
      go_wp2_with (first
       | ((with_reducible refine gate_dst (N := 92) rfl ?_); refine wpLdAt 92 rfl rfl 44 (.tmp 91) rfl (ad.add (q * 16)) rfl _ (nodeA n.f5[q] A' c') HCA.out Tryz.underlying44 rfl (by kernel_rfl) ?_)
       | (go_at_call 38; (with_reducible refine HCk.out.mono ?_); rintro e w1 ⟨rfl, hb⟩; have HB1 := Aside0.mk hb; clear hb))
      go_ret
      exact ⟨ret_i (HX.out.trans HN.out).symm, below_step HB.out HB1.out⟩
    ·have HN := Aside0.mk (show callsL (callE T lostR) (n.f5.drop q) = 0 by rw [List.drop_of_length_le (by omega), callsL])
     go_wp2
     go_ret
     exact ⟨ret_i (HX.out.trans HN.out).symm, HB.out⟩
theorem called_go (T : ByteArray → Option FRow) (n : Nd) (A : Option Addr) (c : Nat) (w : World) (hK : KidsC w A c n.f5) (HT : Aside0 (∀ s f, T s = some f → 0 ≤ f.lo ∧ (f.hi ≤ 0 ∨ 1 ≤ f.wants.length) ∧ f.wants.length ≤ 10)) (HFi : Aside0 (∀ (s : ByteArray) W, Below w.heap.size w W → Calls Tryz.prog 10 #[.string s] W (FindOut s (T s) W))) :
  Calls Tryz.prog 36 #[nodeV n A c] w fun e w' => e = .returned (.int .i64 (calledR lostB (T n.f4) n.f5)) ∧ Below w.heap.size w w' := by
 obtain ⟨hlc, hC⟩ := hK
 have hmax := hC.2.1
 have HC := Aside0.mk hC
 clear hC
 have HR : Aside0 (calledR lostB (T n.f4) n.f5 = calledR lostB (T n.f4) n.f5) := ⟨rfl⟩
 have B1 := Aside0.mk (newBlk w (.cells (nodeA n A c) 44))
 have hb1 := fun (i : Nat) => blk_cell (newBlk w (.cells (nodeA n A c) 44)) i
 have hT := HT.out n.f4
 generalize hr : calledR lostB (T n.f4) n.f5 = r at HR ⊢
 have HR1 := Aside0.mk hr.symm
 clear HR hr
 cases hq : T n.f4 with
 | none =>
  rw [hq] at HR1
  have HFn : Aside0 (∀ W, Below w.heap.size w W → Calls Tryz.prog 10 #[.string n.f4] W (FormOut (⟨#[]⟩ : ByteArray) 0 0 [] 8 W)) := ⟨fun W hW => by have := HFi.out n.f4 W hW; rw [hq] at this; exact this⟩
  have HR8 : Aside0 (r = 8) := ⟨HR1.out.trans (by simp [calledR])⟩
  clear HR1 hT hq
  go_enter Tryz.func36, Tryz.ntmps36
  go_wp2_with (first
   | (go_at_call 10; (with_reducible refine (HFn.out _ (bel1 w _)).mono ?_); rintro e w1 ⟨A2, c2, rfl, hle2, hC2, hb⟩; have HB1 := Aside0.mk (below_step (bel1 w _) hb); have B2 := Aside0.mk (blk_below B1.out hb); have C2 := Aside0.mk hC2; clear hb hb1 hC2 B1)
   | ((with_reducible refine gate_store (t := 24) (p := 3) (v := .tmp 11) rfl ?_); refine wpRowSt rfl 24 (.tmp 3) (.tmp 11) rfl (w1.heap.size) (#[.string (⟨#[]⟩ : ByteArray), .int .i64 0, .int .i64 0, .slice A2 0 c2]) rfl rfl 24 _ (newBlk w1 _) (by kernel_rfl) rfl rfl ?_; have F3 := Aside0.mk (setRow_heap _ _ _ (#[.string (⟨#[]⟩ : ByteArray), .int .i64 0, .int .i64 0, .slice A2 0 c2]) _ _ (newBlk w1 (.cells #[.string ⟨#[]⟩, .int .i64 0, .int .i64 0, .slice none 0 0] 24))); have N3 := Aside0.mk (rowNew B2.out (.cells #[.string ⟨#[]⟩, .int .i64 0, .int .i64 0, .slice none 0 0] 24) (#[.string (⟨#[]⟩ : ByteArray), .int .i64 0, .int .i64 0, .slice A2 0 c2])); have HB3 := Aside0.mk (rowBelow (below_alloc HB1.out (.cells #[.string ⟨#[]⟩, .int .i64 0, .int .i64 0, .slice none 0 0] 24)) HB1.out.size (#[.string (⟨#[]⟩ : ByteArray), .int .i64 0, .int .i64 0, .slice A2 0 c2])); have C3 := Aside0.mk (Kd.C_below C2.out (rowBelow (bel1 w1 (.cells #[.string ⟨#[]⟩, .int .i64 0, .int .i64 0, .slice none 0 0] 24)) (Nat.le_refl _) (#[.string (⟨#[]⟩ : ByteArray), .int .i64 0, .int .i64 0, .slice A2 0 c2]))); generalize ((w1.alloc (.cells #[.string ⟨#[]⟩, .int .i64 0, .int .i64 0, .slice none 0 0] 24)).setRow w1.heap.size (#[.string (⟨#[]⟩ : ByteArray), .int .i64 0, .int .i64 0, .slice A2 0 c2])) = w3 at F3 N3 HB3 C3 ⊢; have hf3 := fun i => blk_cell F3.out i; have hn3 := fun i => blk_cell N3.out i; clear B2 HB1 C2))
  go_ret
  exact ⟨ret_i HR8.out.symm, HB3.out⟩
 | some f =>
  rw [hq] at HR1
  obtain ⟨h0, h1, h2⟩ := hT f hq
  have HFn : Aside0 (∀ W, Below w.heap.size w W → Calls Tryz.prog 10 #[.string n.f4] W (FormOut n.f4 f.lo f.hi f.wants 0 W)) := ⟨fun W hW => by have := HFi.out n.f4 W hW; rw [hq] at this; exact this⟩
  obtain ⟨lo, hi, W⟩ := f
  simp only at h0 h1 h2 HFn
  clear hT hq
  by_cases c1 : (n.f5.length : Int) < lo
  ·have HR8 : Aside0 (r = 10) := ⟨HR1.out.trans (by unfold calledR; simp [c1])⟩
   have c1b : decide ((n.f5.length : Int) < lo) = true := decide_eq_true c1
   clear HR1
   go_enter Tryz.func36, Tryz.ntmps36
   go_wp2_with (first
    | (go_at_call 10; (with_reducible refine (HFn.out _ (bel1 w _)).mono ?_); rintro e w1 ⟨A2, c2, rfl, hle2, hC2, hb⟩; have HB1 := Aside0.mk (below_step (bel1 w _) hb); have B2 := Aside0.mk (blk_below B1.out hb); have C2 := Aside0.mk hC2; clear hb hb1 hC2 B1)
    | ((with_reducible refine gate_store (t := 24) (p := 3) (v := .tmp 11) rfl ?_); refine wpRowSt rfl 24 (.tmp 3) (.tmp 11) rfl (w1.heap.size) (#[.string (n.f4), .int .i64 lo, .int .i64 hi, .slice A2 W.length c2]) rfl rfl 24 _ (newBlk w1 _) (by kernel_rfl) rfl rfl ?_; have F3 := Aside0.mk (setRow_heap _ _ _ (#[.string (n.f4), .int .i64 lo, .int .i64 hi, .slice A2 W.length c2]) _ _ (newBlk w1 (.cells #[.string ⟨#[]⟩, .int .i64 0, .int .i64 0, .slice none 0 0] 24))); have N3 := Aside0.mk (rowNew B2.out (.cells #[.string ⟨#[]⟩, .int .i64 0, .int .i64 0, .slice none 0 0] 24) (#[.string (n.f4), .int .i64 lo, .int .i64 hi, .slice A2 W.length c2])); have HB3 := Aside0.mk (rowBelow (below_alloc HB1.out (.cells #[.string ⟨#[]⟩, .int .i64 0, .int .i64 0, .slice none 0 0] 24)) HB1.out.size (#[.string (n.f4), .int .i64 lo, .int .i64 hi, .slice A2 W.length c2])); have C3 := Aside0.mk (Kd.C_below C2.out (rowBelow (bel1 w1 (.cells #[.string ⟨#[]⟩, .int .i64 0, .int .i64 0, .slice none 0 0] 24)) (Nat.le_refl _) (#[.string (n.f4), .int .i64 lo, .int .i64 hi, .slice A2 W.length c2]))); generalize ((w1.alloc (.cells #[.string ⟨#[]⟩, .int .i64 0, .int .i64 0, .slice none 0 0] 24)).setRow w1.heap.size (#[.string (n.f4), .int .i64 lo, .int .i64 hi, .slice A2 W.length c2])) = w3 at F3 N3 HB3 C3 ⊢; have hf3 := fun i => blk_cell F3.out i; have hn3 := fun i => blk_cell N3.out i; clear B2 HB1 C2))
   go_ret
   exact ⟨ret_i HR8.out.symm, HB3.out⟩
  ·have c1b : decide ((n.f5.length : Int) < lo) = false := decide_eq_false c1
   by_cases c2_ : (n.f5.length : Int) > hi
   ·have HR8 : Aside0 (r = 10) := ⟨HR1.out.trans (by unfold calledR; simp [c2_])⟩
    clear HR1
    go_enter Tryz.func36, Tryz.ntmps36
    go_wp2_with (first
     | (go_at_call 10; (with_reducible refine (HFn.out _ (bel1 w _)).mono ?_); rintro e w1 ⟨A2, c2, rfl, hle2, hC2, hb⟩; have HB1 := Aside0.mk (below_step (bel1 w _) hb); have B2 := Aside0.mk (blk_below B1.out hb); have C2 := Aside0.mk hC2; clear hb hb1 hC2 B1)
     | ((with_reducible refine gate_store (t := 24) (p := 3) (v := .tmp 11) rfl ?_); refine wpRowSt rfl 24 (.tmp 3) (.tmp 11) rfl (w1.heap.size) (#[.string (n.f4), .int .i64 lo, .int .i64 hi, .slice A2 W.length c2]) rfl rfl 24 _ (newBlk w1 _) (by kernel_rfl) rfl rfl ?_; have F3 := Aside0.mk (setRow_heap _ _ _ (#[.string (n.f4), .int .i64 lo, .int .i64 hi, .slice A2 W.length c2]) _ _ (newBlk w1 (.cells #[.string ⟨#[]⟩, .int .i64 0, .int .i64 0, .slice none 0 0] 24))); have N3 := Aside0.mk (rowNew B2.out (.cells #[.string ⟨#[]⟩, .int .i64 0, .int .i64 0, .slice none 0 0] 24) (#[.string (n.f4), .int .i64 lo, .int .i64 hi, .slice A2 W.length c2])); have HB3 := Aside0.mk (rowBelow (below_alloc HB1.out (.cells #[.string ⟨#[]⟩, .int .i64 0, .int .i64 0, .slice none 0 0] 24)) HB1.out.size (#[.string (n.f4), .int .i64 lo, .int .i64 hi, .slice A2 W.length c2])); have C3 := Aside0.mk (Kd.C_below C2.out (rowBelow (bel1 w1 (.cells #[.string ⟨#[]⟩, .int .i64 0, .int .i64 0, .slice none 0 0] 24)) (Nat.le_refl _) (#[.string (n.f4), .int .i64 lo, .int .i64 hi, .slice A2 W.length c2]))); generalize ((w1.alloc (.cells #[.string ⟨#[]⟩, .int .i64 0, .int .i64 0, .slice none 0 0] 24)).setRow w1.heap.size (#[.string (n.f4), .int .i64 lo, .int .i64 hi, .slice A2 W.length c2])) = w3 at F3 N3 HB3 C3 ⊢; have hf3 := fun i => blk_cell F3.out i; have hn3 := fun i => blk_cell N3.out i; clear B2 HB1 C2))
    go_ret
    exact ⟨ret_i HR8.out.symm, HB3.out⟩
   ·have HR2 : Aside0 (r = if argsL lostB W (n.f5.drop 0) 0 = true then 2 else 0) := ⟨HR1.out.trans (by unfold calledR; simp only; rw [if_neg (by omega), List.drop_zero])⟩
    clear HR1
    go_enter Tryz.func36, Tryz.ntmps36
    go_wp2_with (first
     | (go_at_call 10; (with_reducible refine (HFn.out _ (bel1 w _)).mono ?_); rintro e w1 ⟨A2, c2, rfl, hle2, hC2, hb⟩; have HB1 := Aside0.mk (below_step (bel1 w _) hb); have B2 := Aside0.mk (blk_below B1.out hb); have C2 := Aside0.mk hC2; clear hb hb1 hC2 B1)
     | ((with_reducible refine gate_store (t := 24) (p := 3) (v := .tmp 11) rfl ?_); refine wpRowSt rfl 24 (.tmp 3) (.tmp 11) rfl (w1.heap.size) (#[.string (n.f4), .int .i64 lo, .int .i64 hi, .slice A2 W.length c2]) rfl rfl 24 _ (newBlk w1 _) (by kernel_rfl) rfl rfl ?_; have F3 := Aside0.mk (setRow_heap _ _ _ (#[.string (n.f4), .int .i64 lo, .int .i64 hi, .slice A2 W.length c2]) _ _ (newBlk w1 (.cells #[.string ⟨#[]⟩, .int .i64 0, .int .i64 0, .slice none 0 0] 24))); have N3 := Aside0.mk (rowNew B2.out (.cells #[.string ⟨#[]⟩, .int .i64 0, .int .i64 0, .slice none 0 0] 24) (#[.string (n.f4), .int .i64 lo, .int .i64 hi, .slice A2 W.length c2])); have HB3 := Aside0.mk (rowBelow (below_alloc HB1.out (.cells #[.string ⟨#[]⟩, .int .i64 0, .int .i64 0, .slice none 0 0] 24)) HB1.out.size (#[.string (n.f4), .int .i64 lo, .int .i64 hi, .slice A2 W.length c2])); have C3 := Aside0.mk (Kd.C_below C2.out (rowBelow (bel1 w1 (.cells #[.string ⟨#[]⟩, .int .i64 0, .int .i64 0, .slice none 0 0] 24)) (Nat.le_refl _) (#[.string (n.f4), .int .i64 lo, .int .i64 hi, .slice A2 W.length c2]))); generalize ((w1.alloc (.cells #[.string ⟨#[]⟩, .int .i64 0, .int .i64 0, .slice none 0 0] 24)).setRow w1.heap.size (#[.string (n.f4), .int .i64 lo, .int .i64 hi, .slice A2 W.length c2])) = w3 at F3 N3 HB3 C3 ⊢; have hf3 := fun i => blk_cell F3.out i; have hn3 := fun i => blk_cell N3.out i; clear B2 HB1 C2))
    go_loopw [35] (fun i wr => ∃ (q : Nat), q ≤ n.f5.length ∧ i = .int .i64 q ∧ Aside0 (r = (if argsL lostB W (n.f5.drop q) q = true then (2 : Int) else 0)) ∧ Aside0 (Below w.heap.size w wr) ∧ Aside0 (wr.heap[w.heap.size]? = some (.cells (nodeA n A c) 44 (0, 0))) ∧ Aside0 (wr.heap[w1.heap.size]? = some (.cells #[.string n.f4, .int .i64 lo, .int .i64 hi, .slice A2 W.length c2] 24 (0, 0))) ∧ Aside0 (Kd.C (Kd.int .i64) wr A2 W.length W)) (fun i _ => n.f5.length - (intOf i).toNat)
    case atStart => exact ⟨0, by omega, rfl, HR2, HB3, N3, F3, C3⟩
    case round =>
     clear HR2 HB3 N3 F3 C3 hf3 hn3
     obtain ⟨q, hk, rfl, HX, HB, HBk, HFk, HCk⟩ := hrel
     by_cases hkl : q < n.f5.length
     ·have hW1 : 1 ≤ W.length := by omega
      have hw1 : wrap64 ((W.length : Int) - 1) = ((W.length - 1 : Nat) : Int) := by unfold wrap64; omega
      obtain ⟨ix, hix⟩ : ∃ ix : Nat, ix = min q (W.length - 1) := ⟨_, rfl⟩
      have hm1 : min (q : Int) ((W.length - 1 : Nat) : Int) = (ix : Int) := by omega
      have hm2 : (if ((W.length - 1 : Nat) : Int) < (q : Int) then ((W.length - 1 : Nat) : Int) else (q : Int)) = (ix : Int) := by split <;> omega
      have hm3 : (if (q : Int) < ((W.length - 1 : Nat) : Int) then (q : Int) else ((W.length - 1 : Nat) : Int)) = (ix : Int) := by split <;> omega
      have hm4 : min (q : Int) ((W.length : Int) - 1) = (ix : Int) := by omega
      have hmt : (min (q : Int) ((W.length : Int) - 1)).toNat = ix := by omega
      have hil : ix < W.length := by omega
      obtain ⟨ad2, e2, v0⟩ := Kd.at_int HCk.out (ix : Int) (by omega) (by omega)
      subst e2
      rw [rd_wants, Int.toNat_natCast] at v0
      obtain ⟨ad, A', c', e, hK', hCA⟩ := kid_at (Kd.C_below HC.out HB.out) q hkl
      subst e
      have HK' := Aside0.mk hK'
      have HCA := Aside0.mk hCA
      clear hK' hCA
      have HA : Aside0 (argsL lostB W (n.f5.drop q) q = ((W.getD ix 0 == 2 && (!(rgB n.f5[q]) && !(lostB n.f5[q]))) || argsL lostB W (n.f5.drop (q + 1)) (q + 1))) := ⟨by rw [List.drop_eq_getElem_cons hkl, argsL, hix]⟩
      have HRg : Aside0 (∀ V, KidsC V A' c' n.f5[q].f5 → Calls Tryz.prog 39 #[nodeV n.f5[q] A' c'] V fun e w' => e = .returned (.bool (rgB n.f5[q])) ∧ Below V.heap.size V w') := ⟨fun V h => ranged_calls _ _ _ V h⟩
      have HLo : Aside0 (∀ V, KidsC V A' c' n.f5[q].f5 → Calls Tryz.prog 57 #[nodeV n.f5[q] A' c'] V fun e w' => e = .returned (.bool (lostB n.f5[q])) ∧ Below V.heap.size V w') := ⟨fun V h => lostB_calls _ _ _ V h⟩
      generalize W.getD ix 0 = v at v0 HA
      generalize rgB n.f5[q] = zr at HA HRg
      generalize lostB n.f5[q] = zl at HA HLo
      clear hix
      by_cases hv : v = 2
      ·have hvb : (v == 2) = true := by simp [hv]
       cases zr with
       | true =>
        have HN : Aside0 ((if argsL lostB W (n.f5.drop q) q = true then (2 : Int) else 0) = (if argsL lostB W (n.f5.drop (q + 1)) (q + 1) = true then (2 : Int) else 0)) := ⟨by rw [HA.out]; simp⟩
        clear HA hv
        go_wp2_with (first
         | ((with_reducible refine gate_dst (N := 39) rfl ?_); refine wpLdAt 39 rfl rfl 44 (.tmp 38) rfl (ad.add (q * 16)) rfl _ (nodeA n.f5[q] A' c') HCA.out Tryz.underlying44 rfl (by kernel_rfl) ?_)
         | ((with_reducible refine gate_store (t := 44) (p := 6) (v := .tmp 39) rfl ?_); refine wpRowSt rfl 44 (.tmp 6) (.tmp 39) rfl (wr.heap.size) (nodeA n.f5[q] A' c') rfl rfl 44 _ (newBlk wr _) (by kernel_rfl) rfl rfl ?_; have K5 := Aside0.mk (setRow_heap _ _ _ (nodeA n.f5[q] A' c') _ _ (newBlk wr (.cells Z16 44))); have N5 := Aside0.mk (rowNew HBk.out (.cells Z16 44) (nodeA n.f5[q] A' c')); have F5 := Aside0.mk (rowNew HFk.out (.cells Z16 44) (nodeA n.f5[q] A' c')); have HR5 := Aside0.mk (rowBelow (bel1 wr (.cells Z16 44)) (Nat.le_refl _) (nodeA n.f5[q] A' c')); generalize ((wr.alloc (.cells Z16 44)).setRow wr.heap.size (nodeA n.f5[q] A' c')) = w5 at K5 N5 F5 HR5 ⊢; have hf5 := fun i => blk_cell F5.out i; have v5 := (HR5.out.cell (World.block_lt_of_cell? _ _ v0)).trans v0; have HK5 := Aside0.mk (HK'.out.below HR5.out); clear v0 HK' HCA)
         | ((with_reducible refine gate_dst (N := 52) rfl ?_); (refine gate_guard (by rfl) ?_; dsimp only); refine wpPartLd 52 rfl rfl 44 (.tmp 6) rfl _ rfl _ (nodeA n.f5[q] A' c') [] (K5.out) rfl Tryz.underlying44 rfl (by kernel_rfl) ?_)
         | (go_at_call 39; (with_reducible refine ((HRg.out _ HK5.out).mono ?_)); rintro e w6 ⟨rfl, hb⟩; have HR6 := Aside0.mk (HR5.out.trans (hb.mono HR5.out.size)); have K6 := Aside0.mk (blk_below K5.out hb); have N6 := Aside0.mk (blk_below N5.out hb); have F6 := Aside0.mk (blk_below F5.out hb); have HK6 := Aside0.mk (HK5.out.below hb); clear hb hf5))
        go_roundw
        case rel => exact ⟨q + 1, by omega, by go_num, ⟨HX.out.trans HN.out⟩, ⟨below_step HB.out HR6.out⟩, N6, F6, ⟨Kd.C_below HCk.out HR6.out⟩⟩
        case measure => simp [intOf]; omega
       | false =>
        cases zl with
        | true =>
         have HN : Aside0 ((if argsL lostB W (n.f5.drop q) q = true then (2 : Int) else 0) = (if argsL lostB W (n.f5.drop (q + 1)) (q + 1) = true then (2 : Int) else 0)) := ⟨by rw [HA.out]; simp⟩
         clear HA hv
         go_wp2_with (first
          | ((with_reducible refine gate_dst (N := 39) rfl ?_); refine wpLdAt 39 rfl rfl 44 (.tmp 38) rfl (ad.add (q * 16)) rfl _ (nodeA n.f5[q] A' c') HCA.out Tryz.underlying44 rfl (by kernel_rfl) ?_)
          | ((with_reducible refine gate_store (t := 44) (p := 6) (v := .tmp 39) rfl ?_); refine wpRowSt rfl 44 (.tmp 6) (.tmp 39) rfl (wr.heap.size) (nodeA n.f5[q] A' c') rfl rfl 44 _ (newBlk wr _) (by kernel_rfl) rfl rfl ?_; have K5 := Aside0.mk (setRow_heap _ _ _ (nodeA n.f5[q] A' c') _ _ (newBlk wr (.cells Z16 44))); have N5 := Aside0.mk (rowNew HBk.out (.cells Z16 44) (nodeA n.f5[q] A' c')); have F5 := Aside0.mk (rowNew HFk.out (.cells Z16 44) (nodeA n.f5[q] A' c')); have HR5 := Aside0.mk (rowBelow (bel1 wr (.cells Z16 44)) (Nat.le_refl _) (nodeA n.f5[q] A' c')); generalize ((wr.alloc (.cells Z16 44)).setRow wr.heap.size (nodeA n.f5[q] A' c')) = w5 at K5 N5 F5 HR5 ⊢; have hf5 := fun i => blk_cell F5.out i; have v5 := (HR5.out.cell (World.block_lt_of_cell? _ _ v0)).trans v0; have HK5 := Aside0.mk (HK'.out.below HR5.out); clear v0 HK' HCA)
          | ((with_reducible refine gate_dst (N := 52) rfl ?_); (refine gate_guard (by rfl) ?_; dsimp only); refine wpPartLd 52 rfl rfl 44 (.tmp 6) rfl _ rfl _ (nodeA n.f5[q] A' c') [] (K5.out) rfl Tryz.underlying44 rfl (by kernel_rfl) ?_)
          | (go_at_call 39; (with_reducible refine ((HRg.out _ HK5.out).mono ?_)); rintro e w6 ⟨rfl, hb⟩; have HR6 := Aside0.mk (HR5.out.trans (hb.mono HR5.out.size)); have K6 := Aside0.mk (blk_below K5.out hb); have N6 := Aside0.mk (blk_below N5.out hb); have F6 := Aside0.mk (blk_below F5.out hb); have HK6 := Aside0.mk (HK5.out.below hb); clear hb hf5)
          | ((with_reducible refine gate_dst (N := 57) rfl ?_); (refine gate_guard (by rfl) ?_; dsimp only); refine wpPartLd 57 rfl rfl 44 (.tmp 6) rfl _ rfl _ (nodeA n.f5[q] A' c') [] (K6.out) rfl Tryz.underlying44 rfl (by kernel_rfl) ?_)
          | (go_at_call 57; (with_reducible refine ((HLo.out _ HK6.out).mono ?_)); rintro e w7 ⟨rfl, hb⟩; have HR7 := Aside0.mk (HR6.out.trans (hb.mono HR6.out.size)); have N7 := Aside0.mk (blk_below N6.out hb); have F7 := Aside0.mk (blk_below F6.out hb); clear hb))
         go_roundw
         case rel => exact ⟨q + 1, by omega, by go_num, ⟨HX.out.trans HN.out⟩, ⟨below_step HB.out HR7.out⟩, N7, F7, ⟨Kd.C_below HCk.out HR7.out⟩⟩
         case measure => simp [intOf]; omega
        | false =>
         have HN : Aside0 ((if argsL lostB W (n.f5.drop q) q = true then (2 : Int) else 0) = 2) := ⟨by rw [HA.out, hv]; simp⟩
         clear HA hv
         go_wp2_with (first
          | ((with_reducible refine gate_dst (N := 39) rfl ?_); refine wpLdAt 39 rfl rfl 44 (.tmp 38) rfl (ad.add (q * 16)) rfl _ (nodeA n.f5[q] A' c') HCA.out Tryz.underlying44 rfl (by kernel_rfl) ?_)
          | ((with_reducible refine gate_store (t := 44) (p := 6) (v := .tmp 39) rfl ?_); refine wpRowSt rfl 44 (.tmp 6) (.tmp 39) rfl (wr.heap.size) (nodeA n.f5[q] A' c') rfl rfl 44 _ (newBlk wr _) (by kernel_rfl) rfl rfl ?_; have K5 := Aside0.mk (setRow_heap _ _ _ (nodeA n.f5[q] A' c') _ _ (newBlk wr (.cells Z16 44))); have N5 := Aside0.mk (rowNew HBk.out (.cells Z16 44) (nodeA n.f5[q] A' c')); have F5 := Aside0.mk (rowNew HFk.out (.cells Z16 44) (nodeA n.f5[q] A' c')); have HR5 := Aside0.mk (rowBelow (bel1 wr (.cells Z16 44)) (Nat.le_refl _) (nodeA n.f5[q] A' c')); generalize ((wr.alloc (.cells Z16 44)).setRow wr.heap.size (nodeA n.f5[q] A' c')) = w5 at K5 N5 F5 HR5 ⊢; have hf5 := fun i => blk_cell F5.out i; have v5 := (HR5.out.cell (World.block_lt_of_cell? _ _ v0)).trans v0; have HK5 := Aside0.mk (HK'.out.below HR5.out); clear v0 HK' HCA)
          | ((with_reducible refine gate_dst (N := 52) rfl ?_); (refine gate_guard (by rfl) ?_; dsimp only); refine wpPartLd 52 rfl rfl 44 (.tmp 6) rfl _ rfl _ (nodeA n.f5[q] A' c') [] (K5.out) rfl Tryz.underlying44 rfl (by kernel_rfl) ?_)
          | (go_at_call 39; (with_reducible refine ((HRg.out _ HK5.out).mono ?_)); rintro e w6 ⟨rfl, hb⟩; have HR6 := Aside0.mk (HR5.out.trans (hb.mono HR5.out.size)); have K6 := Aside0.mk (blk_below K5.out hb); have N6 := Aside0.mk (blk_below N5.out hb); have F6 := Aside0.mk (blk_below F5.out hb); have HK6 := Aside0.mk (HK5.out.below hb); clear hb hf5)
          | ((with_reducible refine gate_dst (N := 57) rfl ?_); (refine gate_guard (by rfl) ?_; dsimp only); refine wpPartLd 57 rfl rfl 44 (.tmp 6) rfl _ rfl _ (nodeA n.f5[q] A' c') [] (K6.out) rfl Tryz.underlying44 rfl (by kernel_rfl) ?_)
          | (go_at_call 57; (with_reducible refine ((HLo.out _ HK6.out).mono ?_)); rintro e w7 ⟨rfl, hb⟩; have HR7 := Aside0.mk (HR6.out.trans (hb.mono HR6.out.size)); have N7 := Aside0.mk (blk_below N6.out hb); have F7 := Aside0.mk (blk_below F6.out hb); clear hb))
         go_ret
         exact ⟨ret_i (HX.out.trans HN.out).symm, below_step HB.out HR7.out⟩
      ·have hvb : (v == 2) = false := by simp [hv]
       have HN : Aside0 ((if argsL lostB W (n.f5.drop q) q = true then (2 : Int) else 0) = (if argsL lostB W (n.f5.drop (q + 1)) (q + 1) = true then (2 : Int) else 0)) := ⟨by rw [HA.out]; simp [hv]⟩
       clear HA hv
       go_wp2_with (first
        | ((with_reducible refine gate_dst (N := 39) rfl ?_); refine wpLdAt 39 rfl rfl 44 (.tmp 38) rfl (ad.add (q * 16)) rfl _ (nodeA n.f5[q] A' c') HCA.out Tryz.underlying44 rfl (by kernel_rfl) ?_)
        | ((with_reducible refine gate_store (t := 44) (p := 6) (v := .tmp 39) rfl ?_); refine wpRowSt rfl 44 (.tmp 6) (.tmp 39) rfl (wr.heap.size) (nodeA n.f5[q] A' c') rfl rfl 44 _ (newBlk wr _) (by kernel_rfl) rfl rfl ?_; have K5 := Aside0.mk (setRow_heap _ _ _ (nodeA n.f5[q] A' c') _ _ (newBlk wr (.cells Z16 44))); have N5 := Aside0.mk (rowNew HBk.out (.cells Z16 44) (nodeA n.f5[q] A' c')); have F5 := Aside0.mk (rowNew HFk.out (.cells Z16 44) (nodeA n.f5[q] A' c')); have HR5 := Aside0.mk (rowBelow (bel1 wr (.cells Z16 44)) (Nat.le_refl _) (nodeA n.f5[q] A' c')); generalize ((wr.alloc (.cells Z16 44)).setRow wr.heap.size (nodeA n.f5[q] A' c')) = w5 at K5 N5 F5 HR5 ⊢; have hf5 := fun i => blk_cell F5.out i; have v5 := (HR5.out.cell (World.block_lt_of_cell? _ _ v0)).trans v0; have HK5 := Aside0.mk (HK'.out.below HR5.out); clear v0 HK' HCA))
       go_roundw
       case rel => exact ⟨q + 1, by omega, by go_num, ⟨HX.out.trans HN.out⟩, ⟨below_step HB.out HR5.out⟩, N5, F5, ⟨Kd.C_below HCk.out HR5.out⟩⟩
       case measure => simp [intOf]; omega
     ·have HN : Aside0 (r = 0) := ⟨HX.out.trans (by rw [List.drop_of_length_le (by omega)]; simp [argsL])⟩
      go_wp2
      go_ret
      exact ⟨ret_i HN.out.symm, HB.out⟩
theorem called_calls (n : Nd) (A : Option Addr) (c : Nat) (w : World) (hK : KidsC w A c n.f5) (hL0 : Aside0 (LaidW w)) :
  Calls Tryz.prog 36 #[nodeV n A c] w fun e w' => e = .returned (.int .i64 (calledR lostB (findT n.f4) n.f5)) ∧ Below w.heap.size w w' :=
 called_go findT n A c w hK ⟨fun s f e => findT_wants e⟩ ⟨fun s W hW => find_calls s W (LaidAt hL0 hW)⟩
end Go.Proofs.YtopdjokncbpghaaGreatDoor.Pr
end
