/-
  What the law CritMeans leans on, out of the texts that were printed and written for this seat: only what its proof mentions (gathered by a program of the author's).
-/
import Derived.Test.YtngdggmlfoogcaaGreatDoorSCritMeans4
import Derived.Test.YtngdggmlfoogcaaGreatDoorSCritMeans16
import Derived.Test.YtngdggmlfoogcaaGreatDoorSCritMeans17
import Derived.Test.YtngdggmlfoogcaaGreatDoorSCritMeans6
section
namespace Go.Proofs.YtngdggmlfoogcaaGreatDoor.Pr
open Go.RowKit Go.Proofs.YtngdggmlfoogcaaGreatDoorW.PrintWords Go.Proofs.YtngdggmlfoogcaaGreatDoorW.PrintLast Go.Proofs.YtngdggmlfoogcaaGreatDoorW.PrintMore
attribute [local go_sem] max2_int min2_int max_two min_two max_three min_three max_four min_four   -- for this text's walks alone
set_option linter.unusedVariables false
set_option linter.unusedSimpArgs false
def crit_Wild.l0 : Nat → List (S66) → Int → Int → Option (Bool)
 | 0, _, _, _ => none
 | k + 1, x6, x7, x8 => if x8 < x7 then (if 0 ≤ x8 then (if x8 < (x6.length : Int) then (if (rd_T66 x6 x8).f0 = true then (some true) else (if (rd_T66 x6 x8).f1 = true then (some true) else (crit_Wild.l0 k x6 x7 (wrap64 (x8 + 1))))) else (none)) else (none)) else (some false)
def crit_Wild.f (k : Nat) (a0 : ByteArray) : Option (Bool) := (crit_steps.f k a0).bind fun t228 => (crit_Wild.l0 k t228 (t228.length : Int) 0)
set_option maxHeartbeats 8000000 in
set_option maxRecDepth 100000 in
theorem crit_Wild.calls (k : Nat) (a0 : ByteArray) (r : Bool) (w : World) (h : crit_Wild.f k a0 = some r) :
  Calls Tryz.prog 28 #[.string a0] w fun e w' => e = .returned (.bool r) ∧ Below w.heap.size w w' := by
 have hu66 := Tryz.underlying66
 have HB := Aside0.mk (Below.refl w.heap.size w)
 have H : ((crit_steps.f k a0).bind fun t228 => (crit_Wild.l0 k t228 (t228.length : Int) 0)) = some r := h
 clear h
 replace H := Option.bind_eq_some_iff.mp H
 obtain ⟨t228, A20, H⟩ := H
 replace H : (crit_Wild.l0 k t228 (t228.length : Int) 0) = some r := H
 have A2 := Aside0.mk A20
 clear A20
 have H' := Aside0.mk H
 clear H
 go_enter Tryz.func28, Tryz.ntmps28
 go_wp2_with (first | ((with_reducible refine gate_callee (f := 35) rfl ?_); refine goesL_ (some 6) rfl rfl Tryz.func35 (by kernel_rfl) rfl #[.string a0] rfl (by (try simp only [List.map_toArray, List.map_cons, List.map_nil]); first | done | rfl) ?_; (with_reducible refine (crit_steps.calls k a0 t228 _ A2.out).mono ?_); rintro e w3 ⟨v229, rfl, ho0, hb⟩; refine ⟨_, rfl, ?_⟩; have n0_ := Aside0.mk (Kd.R_lower ho0 (below_size (by repeat (first | (with_reducible first | exact HB.out | apply bqA | apply bqN | apply bqD) | exact HB.out)))); have n1_ := Aside0.mk (below_step (by repeat (first | (with_reducible first | exact HB.out | apply bqA | apply bqN | apply bqD) | exact HB.out)) hb); clear HB; have HO230 := n0_; have HB := n1_; clear n0_ n1_; (try clear hb); (try clear hb2); (try clear hk); (try clear hi); (try clear ho0); obtain ⟨Ao4, co4, eo4⟩ := Kd.R_slice HO230.out; subst eo4))
 go_loopg [8] k (fun kq v8 w' => ∃ (x8_1 : Int), v8 = .int .i64 x8_1 ∧ Aside0 (crit_Wild.l0 kq t228 (t228.length : Int) x8_1 = some r) ∧ Aside0 (kq ≤ k) ∧ Aside0 (Kd.R k66 66 w' w.heap.size (fun _ => True) (.slice Ao4 t228.length co4) t228) ∧ Aside0 (Below w.heap.size w w'))
 case atStart => exact ⟨(0), (by first | rfl | (simp; done) | (simp [*]; done)), H', ⟨Nat.le_refl _⟩, ⟨by (with_reducible repeat (first | apply Kd.R_alloc | apply Kd.R_drewN | apply Kd.R_drew)); exact HO230.out⟩, ⟨by repeat (first | (with_reducible first | exact HB.out | apply bqA | apply bqN | apply bqD) | exact HB.out)⟩⟩
 case round =>
  clear H'
  try clear c2
  try clear p2
  try clear c3
  obtain ⟨x8_1, rfl, HA, HK1, HO_6, HB⟩ := hrel
  cases gk with
  | zero => exact absurd HA.out (by simp [crit_Wild.l0])
  | succ k1 =>
   have H := HA.out
   clear HA
   simp only [crit_Wild.l0] at H
   by_cases c5 : x8_1 < (t228.length : Int)
   ·rw [if_pos c5] at H
    have c5b0 : decide (x8_1 < (t228.length : Int)) = true := decide_eq_true c5
    clear c5
    by_cases c6 : 0 ≤ x8_1
    ·rw [if_pos c6] at H
     have c6b0 : decide (0 ≤ x8_1) = true := decide_eq_true c6
     clear c6
     by_cases c7 : x8_1 < (t228.length : Int)
     ·rw [if_pos c7] at H
      have c7b0 : decide (x8_1 < (t228.length : Int)) = true := decide_eq_true c7
      clear c7
      obtain ⟨bq8, hbq8⟩ : ∃ b_ : Bool, b_ = ((rd_T66 t228 x8_1).f0) := ⟨_, rfl⟩
      replace H : (if bq8 = true then (some true) else (if (rd_T66 t228 x8_1).f1 = true then (some true) else (crit_Wild.l0 k1 t228 (t228.length : Int) (wrap64 (x8_1 + 1))))) = some r := by rw [← hbq8] at H; exact H
      have Nbq8 := Aside0.mk hbq8
      clear hbq8
      by_cases c9 : bq8 = true
      ·subst c9
       have H1 : (some true) = some r := by rw [if_pos rfl] at H; exact H
       clear H
       have H := H1
       clear H1
       obtain rfl := Option.some.inj H
       have p231 : 0 ≤ (x8_1 : Int) := of_decide_eq_true (by first | (with_reducible assumption) | assumption)
       have q231 : x8_1 < (t228.length : Int) := of_decide_eq_true (by first | (with_reducible assumption) | assumption)
       obtain ⟨ad231, e231, hx231_0, hx231_1, hx231_2⟩ := at_T66 (Kd.R_reads' HO_6.out).2.2 x8_1 p231 q231
       (try rw [← Nbq8.out] at hx231_0)
       (try rw [← Nbq8.out] at hx231_1)
       cases e231
       replace p231 := eq_true p231
       replace q231 := eq_true q231
       go_wp2_with (first | ((with_reducible refine gate_dst (N := 4) rfl ?_); refine box_event ?hg (N := 4) ?hd (cs := #[.bool false, .bool false, .int .u8 0]) (t := 66) ?hr ?_; (case hd => rfl); (case hg => rfl); (case hr => first | (go_simp; done) | (go_simp; rfl)); intro gb232 hg w10 hbox hb; have n0_ := Aside0.mk (Kd.R_below (Kd.R_elderB (by (with_reducible repeat (first | apply Kd.R_alloc | apply Kd.R_drewN | apply Kd.R_drew)); exact HO_6.out) gb232 (Nat.le_of_eq hg.symm)) hb); have n1_ := Aside0.mk (below_step (by repeat (first | (with_reducible first | exact HB.out | apply bqA | apply bqN | apply bqD) | exact HB.out)) hb); have n2_ := Aside0.mk (hbox); have n3_ := Aside0.mk ((by rw [hg]; exact (below_size (by repeat (first | (with_reducible first | exact HB.out | apply bqA | apply bqN | apply bqD) | exact HB.out))) : w.heap.size ≤ gb232)); have n4_ := n3_; clear HO_6; clear HB; have HO_6 := n0_; have HB := n1_; have BK232 := n2_; have GW232 := n3_; have GE232 := n4_; clear n0_ n1_ n2_ n3_ n4_; clear hb hbox hg; have hcz11_0 : w10.cell? ⟨gb232, 0, none⟩ = some (.bool false) := (blk_cell BK232.out 0).trans rfl; have hcz11_1 : w10.cell? ⟨gb232, 1, none⟩ = some (.bool false) := (blk_cell BK232.out 1).trans rfl; have hcz11_2 : w10.cell? ⟨gb232, 2, none⟩ = some (.int .u8 0) := (blk_cell BK232.out 2).trans rfl; have hfz11_0 := blk_frozen BK232.out 0; have hfz11_1 := blk_frozen BK232.out 1; have hfz11_2 := blk_frozen BK232.out 2))
       go_ret
       exact ⟨by first | rfl | (simp [errW_none, errW_some] <;> rfl) | (simp [*, errW_none, errW_some] <;> rfl), by repeat (first | (with_reducible first | exact HB.out | apply bqA | apply bqN | apply bqD | refine below_set ?_ GE232.out) | exact HB.out)⟩
      ·replace c9 := Bool.eq_false_iff.mpr c9
       subst c9
       have H1 : (if (rd_T66 t228 x8_1).f1 = true then (some true) else (crit_Wild.l0 k1 t228 (t228.length : Int) (wrap64 (x8_1 + 1)))) = some r := by rw [if_neg (show ¬ (false = true) by decide)] at H; exact H
       clear H
       have H := H1
       clear H1
       obtain ⟨bq12, hbq12⟩ : ∃ b_ : Bool, b_ = ((rd_T66 t228 x8_1).f1) := ⟨_, rfl⟩
       replace H : (if bq12 = true then (some true) else (crit_Wild.l0 k1 t228 (t228.length : Int) (wrap64 (x8_1 + 1)))) = some r := by rw [← hbq12] at H; exact H
       have Nbq12 := Aside0.mk hbq12
       clear hbq12
       by_cases c13 : bq12 = true
       ·subst c13
        have H1 : (some true) = some r := by rw [if_pos rfl] at H; exact H
        clear H
        have H := H1
        clear H1
        obtain rfl := Option.some.inj H
        have p231 : 0 ≤ (x8_1 : Int) := of_decide_eq_true (by first | (with_reducible assumption) | assumption)
        have q231 : x8_1 < (t228.length : Int) := of_decide_eq_true (by first | (with_reducible assumption) | assumption)
        obtain ⟨ad231, e231, hx231_0, hx231_1, hx231_2⟩ := at_T66 (Kd.R_reads' HO_6.out).2.2 x8_1 p231 q231
        (try rw [← Nbq8.out] at hx231_0)
        (try rw [← Nbq12.out] at hx231_0)
        (try rw [← Nbq8.out] at hx231_1)
        (try rw [← Nbq12.out] at hx231_1)
        cases e231
        replace p231 := eq_true p231
        replace q231 := eq_true q231
        go_wp2_with (first | ((with_reducible refine gate_dst (N := 4) rfl ?_); refine box_event ?hg (N := 4) ?hd (cs := #[.bool false, .bool false, .int .u8 0]) (t := 66) ?hr ?_; (case hd => rfl); (case hg => rfl); (case hr => first | (go_simp; done) | (go_simp; rfl)); intro gb232 hg w14 hbox hb; have n0_ := Aside0.mk (Kd.R_below (Kd.R_elderB (by (with_reducible repeat (first | apply Kd.R_alloc | apply Kd.R_drewN | apply Kd.R_drew)); exact HO_6.out) gb232 (Nat.le_of_eq hg.symm)) hb); have n1_ := Aside0.mk (below_step (by repeat (first | (with_reducible first | exact HB.out | apply bqA | apply bqN | apply bqD) | exact HB.out)) hb); have n2_ := Aside0.mk (hbox); have n3_ := Aside0.mk ((by rw [hg]; exact (below_size (by repeat (first | (with_reducible first | exact HB.out | apply bqA | apply bqN | apply bqD) | exact HB.out))) : w.heap.size ≤ gb232)); have n4_ := n3_; clear HO_6; clear HB; have HO_6 := n0_; have HB := n1_; have BK232 := n2_; have GW232 := n3_; have GE232 := n4_; clear n0_ n1_ n2_ n3_ n4_; clear hb hbox hg; have hcz15_0 : w14.cell? ⟨gb232, 0, none⟩ = some (.bool false) := (blk_cell BK232.out 0).trans rfl; have hcz15_1 : w14.cell? ⟨gb232, 1, none⟩ = some (.bool false) := (blk_cell BK232.out 1).trans rfl; have hcz15_2 : w14.cell? ⟨gb232, 2, none⟩ = some (.int .u8 0) := (blk_cell BK232.out 2).trans rfl; have hfz15_0 := blk_frozen BK232.out 0; have hfz15_1 := blk_frozen BK232.out 1; have hfz15_2 := blk_frozen BK232.out 2))
        go_ret
        exact ⟨by first | rfl | (simp [errW_none, errW_some] <;> rfl) | (simp [*, errW_none, errW_some] <;> rfl), by repeat (first | (with_reducible first | exact HB.out | apply bqA | apply bqN | apply bqD | refine below_set ?_ GE232.out) | exact HB.out)⟩
       ·replace c13 := Bool.eq_false_iff.mpr c13
        subst c13
        have H1 : (crit_Wild.l0 k1 t228 (t228.length : Int) (wrap64 (x8_1 + 1))) = some r := by rw [if_neg (show ¬ (false = true) by decide)] at H; exact H
        clear H
        have H := H1
        clear H1
        have H' := Aside0.mk H
        clear H
        have p231 : 0 ≤ (x8_1 : Int) := of_decide_eq_true (by first | (with_reducible assumption) | assumption)
        have q231 : x8_1 < (t228.length : Int) := of_decide_eq_true (by first | (with_reducible assumption) | assumption)
        obtain ⟨ad231, e231, hx231_0, hx231_1, hx231_2⟩ := at_T66 (Kd.R_reads' HO_6.out).2.2 x8_1 p231 q231
        (try rw [← Nbq8.out] at hx231_0)
        (try rw [← Nbq12.out] at hx231_0)
        (try rw [← Nbq8.out] at hx231_1)
        (try rw [← Nbq12.out] at hx231_1)
        cases e231
        replace p231 := eq_true p231
        replace q231 := eq_true q231
        go_wp2_with (first | ((with_reducible refine gate_dst (N := 4) rfl ?_); refine box_event ?hg (N := 4) ?hd (cs := #[.bool false, .bool false, .int .u8 0]) (t := 66) ?hr ?_; (case hd => rfl); (case hg => rfl); (case hr => first | (go_simp; done) | (go_simp; rfl)); intro gb232 hg w16 hbox hb; have n0_ := Aside0.mk (Kd.R_below (Kd.R_elderB (by (with_reducible repeat (first | apply Kd.R_alloc | apply Kd.R_drewN | apply Kd.R_drew)); exact HO_6.out) gb232 (Nat.le_of_eq hg.symm)) hb); have n1_ := Aside0.mk (below_step (by repeat (first | (with_reducible first | exact HB.out | apply bqA | apply bqN | apply bqD) | exact HB.out)) hb); have n2_ := Aside0.mk (hbox); have n3_ := Aside0.mk ((by rw [hg]; exact (below_size (by repeat (first | (with_reducible first | exact HB.out | apply bqA | apply bqN | apply bqD) | exact HB.out))) : w.heap.size ≤ gb232)); have n4_ := n3_; clear HO_6; clear HB; have HO_6 := n0_; have HB := n1_; have BK232 := n2_; have GW232 := n3_; have GE232 := n4_; clear n0_ n1_ n2_ n3_ n4_; clear hb hbox hg; have hcz17_0 : w16.cell? ⟨gb232, 0, none⟩ = some (.bool false) := (blk_cell BK232.out 0).trans rfl; have hcz17_1 : w16.cell? ⟨gb232, 1, none⟩ = some (.bool false) := (blk_cell BK232.out 1).trans rfl; have hcz17_2 : w16.cell? ⟨gb232, 2, none⟩ = some (.int .u8 0) := (blk_cell BK232.out 2).trans rfl; have hfz17_0 := blk_frozen BK232.out 0; have hfz17_1 := blk_frozen BK232.out 1; have hfz17_2 := blk_frozen BK232.out 2))
        go_roundg k1
        case measure => have := HK1.out; omega
        case rel => exact ⟨(wrap64 (x8_1 + 1)), (by first | rfl | (simp; done) | (simp [*]; done)), H', ⟨by have := HK1.out; omega⟩, ⟨by (with_reducible repeat (first | apply Kd.R_alloc | apply Kd.R_drewN | apply Kd.R_drew)); exact Kd.R_mono (Kd.R_far (p := ⟨gb232, 2, none⟩) (Kd.R_far (p := ⟨gb232, 1, none⟩) (Kd.R_far (p := ⟨gb232, 0, none⟩) (Kd.R_mono HO_6.out (fun k_ hk => (⟨hk, hk.2⟩ : _ ∧ k_ ≠ gb232))) (fun _ hk => hk.2) (.bool false)) (fun _ hk => hk.2) (.bool false)) (fun _ hk => hk.2) (.int .u8 ((rd_T66 t228 x8_1).f2))) (fun _ hk => trivial)⟩, ⟨by repeat (first | (with_reducible first | exact HB.out | apply bqA | apply bqN | apply bqD | refine below_set ?_ GE232.out) | exact HB.out)⟩⟩
     ·rw [if_neg c7] at H
      exact absurd H (by simp)
    ·rw [if_neg c6] at H
     exact absurd H (by simp)
   ·rw [if_neg c5] at H
    have c5b0 : decide (x8_1 < (t228.length : Int)) = false := decide_eq_false c5
    clear c5
    obtain rfl := Option.some.inj H
    go_wp2
    go_ret
    exact ⟨by first | rfl | (simp [errW_none, errW_some] <;> rfl) | (simp [*, errW_none, errW_some] <;> rfl), by repeat (first | (with_reducible first | exact HB.out | apply bqA | apply bqN | apply bqD) | exact HB.out)⟩
def foolscaplaw13_lives.f (k : Nat)  : Option (Bool) := (foolscaplaw13_number.f 7000000).bind fun bt233 => ((foolscaplaw13_fits.f k (⟨#[62, 61, 53]⟩ : ByteArray) bt233.1 bt233.2.1 bt233.2.2.1 bt233.2.2.2.1 bt233.2.2.2.2).bind fun t238 => (if t238 = true then ((foolscaplaw13_text.f (⟨#[55]⟩ : ByteArray)).bind fun bt239 => ((foolscaplaw13_fits.f k (⟨#[62, 61, 53]⟩ : ByteArray) bt239.1 bt239.2.1 bt239.2.2.1 bt239.2.2.2.1 bt239.2.2.2.2).bind fun t244 => (if t244 = true then (none) else ((foolscaplaw13_text.f (⟨#[65, 98, 99]⟩ : ByteArray)).bind fun bt245 => ((foolscaplaw13_fits.f k (⟨#[97, 42]⟩ : ByteArray) bt245.1 bt245.2.1 bt245.2.2.1 bt245.2.2.2.1 bt245.2.2.2.2).bind fun t250 => (if t250 = true then ((foolscaplaw13_text.f (⟨#[97, 42]⟩ : ByteArray)).bind fun bt251 => ((foolscaplaw13_fits.f k (⟨#[97, 126, 42]⟩ : ByteArray) bt251.1 bt251.2.1 bt251.2.2.1 bt251.2.2.2.1 bt251.2.2.2.2).bind fun t256 => (if t256 = true then ((foolscaplaw13_text.f (⟨#[97, 98]⟩ : ByteArray)).bind fun bt257 => ((foolscaplaw13_fits.f k (⟨#[97, 126, 42]⟩ : ByteArray) bt257.1 bt257.2.1 bt257.2.2.1 bt257.2.2.2.1 bt257.2.2.2.2).bind fun t262 => (if t262 = true then (none) else ((foolscaplaw13_fits.f k (⟨#[60, 62, 120]⟩ : ByteArray) 0 0 (⟨#[]⟩ : ByteArray) false 0).bind fun t263 => (if t263 = true then ((foolscaplaw13_text.f (⟨#[88]⟩ : ByteArray)).bind fun bt264 => ((foolscaplaw13_fits.f k (⟨#[60, 62, 120]⟩ : ByteArray) bt264.1 bt264.2.1 bt264.2.2.1 bt264.2.2.2.1 bt264.2.2.2.2).bind fun t269 => (if t269 = true then (none) else ((crit_Like.f k (⟨#[63, 98, 42]⟩ : ByteArray) (⟨#[97, 98, 99]⟩ : ByteArray)).bind fun t270 => (if t270 = true then ((crit_Wild.f k (⟨#[97, 63]⟩ : ByteArray)).bind fun t271 => (if t271 = true then ((crit_Wild.f k (⟨#[97, 126, 63]⟩ : ByteArray)).bind fun t272 => (some (!t272))) else (none))) else (none)))))) else (none)))))) else (none)))) else (none))))))) else (none)))
set_option maxHeartbeats 8000000 in
set_option maxRecDepth 100000 in
theorem foolscaplaw13_lives.calls (k : Nat)  (r : Bool) (w : World) (h : foolscaplaw13_lives.f k  = some r) :
  Calls Tryz.prog 11 #[] w fun e w' => e = .returned (.bool r) ∧ Below w.heap.size w w' := by
 have hu25 := Tryz.underlying25
 have HB := Aside0.mk (Below.refl w.heap.size w)
 have H : ((foolscaplaw13_number.f 7000000).bind fun bt233 => ((foolscaplaw13_fits.f k (⟨#[62, 61, 53]⟩ : ByteArray) bt233.1 bt233.2.1 bt233.2.2.1 bt233.2.2.2.1 bt233.2.2.2.2).bind fun t238 => (if t238 = true then ((foolscaplaw13_text.f (⟨#[55]⟩ : ByteArray)).bind fun bt239 => ((foolscaplaw13_fits.f k (⟨#[62, 61, 53]⟩ : ByteArray) bt239.1 bt239.2.1 bt239.2.2.1 bt239.2.2.2.1 bt239.2.2.2.2).bind fun t244 => (if t244 = true then (none) else ((foolscaplaw13_text.f (⟨#[65, 98, 99]⟩ : ByteArray)).bind fun bt245 => ((foolscaplaw13_fits.f k (⟨#[97, 42]⟩ : ByteArray) bt245.1 bt245.2.1 bt245.2.2.1 bt245.2.2.2.1 bt245.2.2.2.2).bind fun t250 => (if t250 = true then ((foolscaplaw13_text.f (⟨#[97, 42]⟩ : ByteArray)).bind fun bt251 => ((foolscaplaw13_fits.f k (⟨#[97, 126, 42]⟩ : ByteArray) bt251.1 bt251.2.1 bt251.2.2.1 bt251.2.2.2.1 bt251.2.2.2.2).bind fun t256 => (if t256 = true then ((foolscaplaw13_text.f (⟨#[97, 98]⟩ : ByteArray)).bind fun bt257 => ((foolscaplaw13_fits.f k (⟨#[97, 126, 42]⟩ : ByteArray) bt257.1 bt257.2.1 bt257.2.2.1 bt257.2.2.2.1 bt257.2.2.2.2).bind fun t262 => (if t262 = true then (none) else ((foolscaplaw13_fits.f k (⟨#[60, 62, 120]⟩ : ByteArray) 0 0 (⟨#[]⟩ : ByteArray) false 0).bind fun t263 => (if t263 = true then ((foolscaplaw13_text.f (⟨#[88]⟩ : ByteArray)).bind fun bt264 => ((foolscaplaw13_fits.f k (⟨#[60, 62, 120]⟩ : ByteArray) bt264.1 bt264.2.1 bt264.2.2.1 bt264.2.2.2.1 bt264.2.2.2.2).bind fun t269 => (if t269 = true then (none) else ((crit_Like.f k (⟨#[63, 98, 42]⟩ : ByteArray) (⟨#[97, 98, 99]⟩ : ByteArray)).bind fun t270 => (if t270 = true then ((crit_Wild.f k (⟨#[97, 63]⟩ : ByteArray)).bind fun t271 => (if t271 = true then ((crit_Wild.f k (⟨#[97, 126, 63]⟩ : ByteArray)).bind fun t272 => (some (!t272))) else (none))) else (none)))))) else (none)))))) else (none)))) else (none))))))) else (none)))) = some r := h
 clear h
 replace H := Option.bind_eq_some_iff.mp H
 obtain ⟨⟨t233, t234, t235, t236, t237⟩, A10, H⟩ := H
 replace H : ((foolscaplaw13_fits.f k (⟨#[62, 61, 53]⟩ : ByteArray) t233 t234 t235 t236 t237).bind fun t238 => (if t238 = true then ((foolscaplaw13_text.f (⟨#[55]⟩ : ByteArray)).bind fun bt239 => ((foolscaplaw13_fits.f k (⟨#[62, 61, 53]⟩ : ByteArray) bt239.1 bt239.2.1 bt239.2.2.1 bt239.2.2.2.1 bt239.2.2.2.2).bind fun t244 => (if t244 = true then (none) else ((foolscaplaw13_text.f (⟨#[65, 98, 99]⟩ : ByteArray)).bind fun bt245 => ((foolscaplaw13_fits.f k (⟨#[97, 42]⟩ : ByteArray) bt245.1 bt245.2.1 bt245.2.2.1 bt245.2.2.2.1 bt245.2.2.2.2).bind fun t250 => (if t250 = true then ((foolscaplaw13_text.f (⟨#[97, 42]⟩ : ByteArray)).bind fun bt251 => ((foolscaplaw13_fits.f k (⟨#[97, 126, 42]⟩ : ByteArray) bt251.1 bt251.2.1 bt251.2.2.1 bt251.2.2.2.1 bt251.2.2.2.2).bind fun t256 => (if t256 = true then ((foolscaplaw13_text.f (⟨#[97, 98]⟩ : ByteArray)).bind fun bt257 => ((foolscaplaw13_fits.f k (⟨#[97, 126, 42]⟩ : ByteArray) bt257.1 bt257.2.1 bt257.2.2.1 bt257.2.2.2.1 bt257.2.2.2.2).bind fun t262 => (if t262 = true then (none) else ((foolscaplaw13_fits.f k (⟨#[60, 62, 120]⟩ : ByteArray) 0 0 (⟨#[]⟩ : ByteArray) false 0).bind fun t263 => (if t263 = true then ((foolscaplaw13_text.f (⟨#[88]⟩ : ByteArray)).bind fun bt264 => ((foolscaplaw13_fits.f k (⟨#[60, 62, 120]⟩ : ByteArray) bt264.1 bt264.2.1 bt264.2.2.1 bt264.2.2.2.1 bt264.2.2.2.2).bind fun t269 => (if t269 = true then (none) else ((crit_Like.f k (⟨#[63, 98, 42]⟩ : ByteArray) (⟨#[97, 98, 99]⟩ : ByteArray)).bind fun t270 => (if t270 = true then ((crit_Wild.f k (⟨#[97, 63]⟩ : ByteArray)).bind fun t271 => (if t271 = true then ((crit_Wild.f k (⟨#[97, 126, 63]⟩ : ByteArray)).bind fun t272 => (some (!t272))) else (none))) else (none)))))) else (none)))))) else (none)))) else (none))))))) else (none))) = some r := H
 have A1 := Aside0.mk A10
 clear A10
 replace H := Option.bind_eq_some_iff.mp H
 obtain ⟨t238, A20, H⟩ := H
 replace H : (if t238 = true then ((foolscaplaw13_text.f (⟨#[55]⟩ : ByteArray)).bind fun bt239 => ((foolscaplaw13_fits.f k (⟨#[62, 61, 53]⟩ : ByteArray) bt239.1 bt239.2.1 bt239.2.2.1 bt239.2.2.2.1 bt239.2.2.2.2).bind fun t244 => (if t244 = true then (none) else ((foolscaplaw13_text.f (⟨#[65, 98, 99]⟩ : ByteArray)).bind fun bt245 => ((foolscaplaw13_fits.f k (⟨#[97, 42]⟩ : ByteArray) bt245.1 bt245.2.1 bt245.2.2.1 bt245.2.2.2.1 bt245.2.2.2.2).bind fun t250 => (if t250 = true then ((foolscaplaw13_text.f (⟨#[97, 42]⟩ : ByteArray)).bind fun bt251 => ((foolscaplaw13_fits.f k (⟨#[97, 126, 42]⟩ : ByteArray) bt251.1 bt251.2.1 bt251.2.2.1 bt251.2.2.2.1 bt251.2.2.2.2).bind fun t256 => (if t256 = true then ((foolscaplaw13_text.f (⟨#[97, 98]⟩ : ByteArray)).bind fun bt257 => ((foolscaplaw13_fits.f k (⟨#[97, 126, 42]⟩ : ByteArray) bt257.1 bt257.2.1 bt257.2.2.1 bt257.2.2.2.1 bt257.2.2.2.2).bind fun t262 => (if t262 = true then (none) else ((foolscaplaw13_fits.f k (⟨#[60, 62, 120]⟩ : ByteArray) 0 0 (⟨#[]⟩ : ByteArray) false 0).bind fun t263 => (if t263 = true then ((foolscaplaw13_text.f (⟨#[88]⟩ : ByteArray)).bind fun bt264 => ((foolscaplaw13_fits.f k (⟨#[60, 62, 120]⟩ : ByteArray) bt264.1 bt264.2.1 bt264.2.2.1 bt264.2.2.2.1 bt264.2.2.2.2).bind fun t269 => (if t269 = true then (none) else ((crit_Like.f k (⟨#[63, 98, 42]⟩ : ByteArray) (⟨#[97, 98, 99]⟩ : ByteArray)).bind fun t270 => (if t270 = true then ((crit_Wild.f k (⟨#[97, 63]⟩ : ByteArray)).bind fun t271 => (if t271 = true then ((crit_Wild.f k (⟨#[97, 126, 63]⟩ : ByteArray)).bind fun t272 => (some (!t272))) else (none))) else (none)))))) else (none)))))) else (none)))) else (none))))))) else (none)) = some r := H
 have A2 := Aside0.mk A20
 clear A20
 by_cases c3 : t238 = true
 ·subst c3
  have H1 : ((foolscaplaw13_text.f (⟨#[55]⟩ : ByteArray)).bind fun bt239 => ((foolscaplaw13_fits.f k (⟨#[62, 61, 53]⟩ : ByteArray) bt239.1 bt239.2.1 bt239.2.2.1 bt239.2.2.2.1 bt239.2.2.2.2).bind fun t244 => (if t244 = true then (none) else ((foolscaplaw13_text.f (⟨#[65, 98, 99]⟩ : ByteArray)).bind fun bt245 => ((foolscaplaw13_fits.f k (⟨#[97, 42]⟩ : ByteArray) bt245.1 bt245.2.1 bt245.2.2.1 bt245.2.2.2.1 bt245.2.2.2.2).bind fun t250 => (if t250 = true then ((foolscaplaw13_text.f (⟨#[97, 42]⟩ : ByteArray)).bind fun bt251 => ((foolscaplaw13_fits.f k (⟨#[97, 126, 42]⟩ : ByteArray) bt251.1 bt251.2.1 bt251.2.2.1 bt251.2.2.2.1 bt251.2.2.2.2).bind fun t256 => (if t256 = true then ((foolscaplaw13_text.f (⟨#[97, 98]⟩ : ByteArray)).bind fun bt257 => ((foolscaplaw13_fits.f k (⟨#[97, 126, 42]⟩ : ByteArray) bt257.1 bt257.2.1 bt257.2.2.1 bt257.2.2.2.1 bt257.2.2.2.2).bind fun t262 => (if t262 = true then (none) else ((foolscaplaw13_fits.f k (⟨#[60, 62, 120]⟩ : ByteArray) 0 0 (⟨#[]⟩ : ByteArray) false 0).bind fun t263 => (if t263 = true then ((foolscaplaw13_text.f (⟨#[88]⟩ : ByteArray)).bind fun bt264 => ((foolscaplaw13_fits.f k (⟨#[60, 62, 120]⟩ : ByteArray) bt264.1 bt264.2.1 bt264.2.2.1 bt264.2.2.2.1 bt264.2.2.2.2).bind fun t269 => (if t269 = true then (none) else ((crit_Like.f k (⟨#[63, 98, 42]⟩ : ByteArray) (⟨#[97, 98, 99]⟩ : ByteArray)).bind fun t270 => (if t270 = true then ((crit_Wild.f k (⟨#[97, 63]⟩ : ByteArray)).bind fun t271 => (if t271 = true then ((crit_Wild.f k (⟨#[97, 126, 63]⟩ : ByteArray)).bind fun t272 => (some (!t272))) else (none))) else (none)))))) else (none)))))) else (none)))) else (none))))))) = some r := by rw [if_pos rfl] at H; exact H
  clear H
  have H := H1
  clear H1
  replace H := Option.bind_eq_some_iff.mp H
  obtain ⟨⟨t239, t240, t241, t242, t243⟩, A40, H⟩ := H
  replace H : ((foolscaplaw13_fits.f k (⟨#[62, 61, 53]⟩ : ByteArray) t239 t240 t241 t242 t243).bind fun t244 => (if t244 = true then (none) else ((foolscaplaw13_text.f (⟨#[65, 98, 99]⟩ : ByteArray)).bind fun bt245 => ((foolscaplaw13_fits.f k (⟨#[97, 42]⟩ : ByteArray) bt245.1 bt245.2.1 bt245.2.2.1 bt245.2.2.2.1 bt245.2.2.2.2).bind fun t250 => (if t250 = true then ((foolscaplaw13_text.f (⟨#[97, 42]⟩ : ByteArray)).bind fun bt251 => ((foolscaplaw13_fits.f k (⟨#[97, 126, 42]⟩ : ByteArray) bt251.1 bt251.2.1 bt251.2.2.1 bt251.2.2.2.1 bt251.2.2.2.2).bind fun t256 => (if t256 = true then ((foolscaplaw13_text.f (⟨#[97, 98]⟩ : ByteArray)).bind fun bt257 => ((foolscaplaw13_fits.f k (⟨#[97, 126, 42]⟩ : ByteArray) bt257.1 bt257.2.1 bt257.2.2.1 bt257.2.2.2.1 bt257.2.2.2.2).bind fun t262 => (if t262 = true then (none) else ((foolscaplaw13_fits.f k (⟨#[60, 62, 120]⟩ : ByteArray) 0 0 (⟨#[]⟩ : ByteArray) false 0).bind fun t263 => (if t263 = true then ((foolscaplaw13_text.f (⟨#[88]⟩ : ByteArray)).bind fun bt264 => ((foolscaplaw13_fits.f k (⟨#[60, 62, 120]⟩ : ByteArray) bt264.1 bt264.2.1 bt264.2.2.1 bt264.2.2.2.1 bt264.2.2.2.2).bind fun t269 => (if t269 = true then (none) else ((crit_Like.f k (⟨#[63, 98, 42]⟩ : ByteArray) (⟨#[97, 98, 99]⟩ : ByteArray)).bind fun t270 => (if t270 = true then ((crit_Wild.f k (⟨#[97, 63]⟩ : ByteArray)).bind fun t271 => (if t271 = true then ((crit_Wild.f k (⟨#[97, 126, 63]⟩ : ByteArray)).bind fun t272 => (some (!t272))) else (none))) else (none)))))) else (none)))))) else (none)))) else (none)))))) = some r := H
  have A4 := Aside0.mk A40
  clear A40
  replace H := Option.bind_eq_some_iff.mp H
  obtain ⟨t244, A50, H⟩ := H
  replace H : (if t244 = true then (none) else ((foolscaplaw13_text.f (⟨#[65, 98, 99]⟩ : ByteArray)).bind fun bt245 => ((foolscaplaw13_fits.f k (⟨#[97, 42]⟩ : ByteArray) bt245.1 bt245.2.1 bt245.2.2.1 bt245.2.2.2.1 bt245.2.2.2.2).bind fun t250 => (if t250 = true then ((foolscaplaw13_text.f (⟨#[97, 42]⟩ : ByteArray)).bind fun bt251 => ((foolscaplaw13_fits.f k (⟨#[97, 126, 42]⟩ : ByteArray) bt251.1 bt251.2.1 bt251.2.2.1 bt251.2.2.2.1 bt251.2.2.2.2).bind fun t256 => (if t256 = true then ((foolscaplaw13_text.f (⟨#[97, 98]⟩ : ByteArray)).bind fun bt257 => ((foolscaplaw13_fits.f k (⟨#[97, 126, 42]⟩ : ByteArray) bt257.1 bt257.2.1 bt257.2.2.1 bt257.2.2.2.1 bt257.2.2.2.2).bind fun t262 => (if t262 = true then (none) else ((foolscaplaw13_fits.f k (⟨#[60, 62, 120]⟩ : ByteArray) 0 0 (⟨#[]⟩ : ByteArray) false 0).bind fun t263 => (if t263 = true then ((foolscaplaw13_text.f (⟨#[88]⟩ : ByteArray)).bind fun bt264 => ((foolscaplaw13_fits.f k (⟨#[60, 62, 120]⟩ : ByteArray) bt264.1 bt264.2.1 bt264.2.2.1 bt264.2.2.2.1 bt264.2.2.2.2).bind fun t269 => (if t269 = true then (none) else ((crit_Like.f k (⟨#[63, 98, 42]⟩ : ByteArray) (⟨#[97, 98, 99]⟩ : ByteArray)).bind fun t270 => (if t270 = true then ((crit_Wild.f k (⟨#[97, 63]⟩ : ByteArray)).bind fun t271 => (if t271 = true then ((crit_Wild.f k (⟨#[97, 126, 63]⟩ : ByteArray)).bind fun t272 => (some (!t272))) else (none))) else (none)))))) else (none)))))) else (none)))) else (none))))) = some r := H
  have A5 := Aside0.mk A50
  clear A50
  by_cases c6 : t244 = true
  ·subst c6
   have H1 : (none) = some r := by rw [if_pos rfl] at H; exact H
   clear H
   have H := H1
   clear H1
   exact absurd H (by simp)
  ·replace c6 := Bool.eq_false_iff.mpr c6
   subst c6
   have H1 : ((foolscaplaw13_text.f (⟨#[65, 98, 99]⟩ : ByteArray)).bind fun bt245 => ((foolscaplaw13_fits.f k (⟨#[97, 42]⟩ : ByteArray) bt245.1 bt245.2.1 bt245.2.2.1 bt245.2.2.2.1 bt245.2.2.2.2).bind fun t250 => (if t250 = true then ((foolscaplaw13_text.f (⟨#[97, 42]⟩ : ByteArray)).bind fun bt251 => ((foolscaplaw13_fits.f k (⟨#[97, 126, 42]⟩ : ByteArray) bt251.1 bt251.2.1 bt251.2.2.1 bt251.2.2.2.1 bt251.2.2.2.2).bind fun t256 => (if t256 = true then ((foolscaplaw13_text.f (⟨#[97, 98]⟩ : ByteArray)).bind fun bt257 => ((foolscaplaw13_fits.f k (⟨#[97, 126, 42]⟩ : ByteArray) bt257.1 bt257.2.1 bt257.2.2.1 bt257.2.2.2.1 bt257.2.2.2.2).bind fun t262 => (if t262 = true then (none) else ((foolscaplaw13_fits.f k (⟨#[60, 62, 120]⟩ : ByteArray) 0 0 (⟨#[]⟩ : ByteArray) false 0).bind fun t263 => (if t263 = true then ((foolscaplaw13_text.f (⟨#[88]⟩ : ByteArray)).bind fun bt264 => ((foolscaplaw13_fits.f k (⟨#[60, 62, 120]⟩ : ByteArray) bt264.1 bt264.2.1 bt264.2.2.1 bt264.2.2.2.1 bt264.2.2.2.2).bind fun t269 => (if t269 = true then (none) else ((crit_Like.f k (⟨#[63, 98, 42]⟩ : ByteArray) (⟨#[97, 98, 99]⟩ : ByteArray)).bind fun t270 => (if t270 = true then ((crit_Wild.f k (⟨#[97, 63]⟩ : ByteArray)).bind fun t271 => (if t271 = true then ((crit_Wild.f k (⟨#[97, 126, 63]⟩ : ByteArray)).bind fun t272 => (some (!t272))) else (none))) else (none)))))) else (none)))))) else (none)))) else (none)))) = some r := by rw [if_neg (show ¬ (false = true) by decide)] at H; exact H
   clear H
   have H := H1
   clear H1
   replace H := Option.bind_eq_some_iff.mp H
   obtain ⟨⟨t245, t246, t247, t248, t249⟩, A70, H⟩ := H
   replace H : ((foolscaplaw13_fits.f k (⟨#[97, 42]⟩ : ByteArray) t245 t246 t247 t248 t249).bind fun t250 => (if t250 = true then ((foolscaplaw13_text.f (⟨#[97, 42]⟩ : ByteArray)).bind fun bt251 => ((foolscaplaw13_fits.f k (⟨#[97, 126, 42]⟩ : ByteArray) bt251.1 bt251.2.1 bt251.2.2.1 bt251.2.2.2.1 bt251.2.2.2.2).bind fun t256 => (if t256 = true then ((foolscaplaw13_text.f (⟨#[97, 98]⟩ : ByteArray)).bind fun bt257 => ((foolscaplaw13_fits.f k (⟨#[97, 126, 42]⟩ : ByteArray) bt257.1 bt257.2.1 bt257.2.2.1 bt257.2.2.2.1 bt257.2.2.2.2).bind fun t262 => (if t262 = true then (none) else ((foolscaplaw13_fits.f k (⟨#[60, 62, 120]⟩ : ByteArray) 0 0 (⟨#[]⟩ : ByteArray) false 0).bind fun t263 => (if t263 = true then ((foolscaplaw13_text.f (⟨#[88]⟩ : ByteArray)).bind fun bt264 => ((foolscaplaw13_fits.f k (⟨#[60, 62, 120]⟩ : ByteArray) bt264.1 bt264.2.1 bt264.2.2.1 bt264.2.2.2.1 bt264.2.2.2.2).bind fun t269 => (if t269 = true then (none) else ((crit_Like.f k (⟨#[63, 98, 42]⟩ : ByteArray) (⟨#[97, 98, 99]⟩ : ByteArray)).bind fun t270 => (if t270 = true then ((crit_Wild.f k (⟨#[97, 63]⟩ : ByteArray)).bind fun t271 => (if t271 = true then ((crit_Wild.f k (⟨#[97, 126, 63]⟩ : ByteArray)).bind fun t272 => (some (!t272))) else (none))) else (none)))))) else (none)))))) else (none)))) else (none))) = some r := H
   have A7 := Aside0.mk A70
   clear A70
   replace H := Option.bind_eq_some_iff.mp H
   obtain ⟨t250, A80, H⟩ := H
   replace H : (if t250 = true then ((foolscaplaw13_text.f (⟨#[97, 42]⟩ : ByteArray)).bind fun bt251 => ((foolscaplaw13_fits.f k (⟨#[97, 126, 42]⟩ : ByteArray) bt251.1 bt251.2.1 bt251.2.2.1 bt251.2.2.2.1 bt251.2.2.2.2).bind fun t256 => (if t256 = true then ((foolscaplaw13_text.f (⟨#[97, 98]⟩ : ByteArray)).bind fun bt257 => ((foolscaplaw13_fits.f k (⟨#[97, 126, 42]⟩ : ByteArray) bt257.1 bt257.2.1 bt257.2.2.1 bt257.2.2.2.1 bt257.2.2.2.2).bind fun t262 => (if t262 = true then (none) else ((foolscaplaw13_fits.f k (⟨#[60, 62, 120]⟩ : ByteArray) 0 0 (⟨#[]⟩ : ByteArray) false 0).bind fun t263 => (if t263 = true then ((foolscaplaw13_text.f (⟨#[88]⟩ : ByteArray)).bind fun bt264 => ((foolscaplaw13_fits.f k (⟨#[60, 62, 120]⟩ : ByteArray) bt264.1 bt264.2.1 bt264.2.2.1 bt264.2.2.2.1 bt264.2.2.2.2).bind fun t269 => (if t269 = true then (none) else ((crit_Like.f k (⟨#[63, 98, 42]⟩ : ByteArray) (⟨#[97, 98, 99]⟩ : ByteArray)).bind fun t270 => (if t270 = true then ((crit_Wild.f k (⟨#[97, 63]⟩ : ByteArray)).bind fun t271 => (if t271 = true then ((crit_Wild.f k (⟨#[97, 126, 63]⟩ : ByteArray)).bind fun t272 => (some (!t272))) else (none))) else (none)))))) else (none)))))) else (none)))) else (none)) = some r := H
   have A8 := Aside0.mk A80
   clear A80
   by_cases c9 : t250 = true
   ·subst c9
    have H1 : ((foolscaplaw13_text.f (⟨#[97, 42]⟩ : ByteArray)).bind fun bt251 => ((foolscaplaw13_fits.f k (⟨#[97, 126, 42]⟩ : ByteArray) bt251.1 bt251.2.1 bt251.2.2.1 bt251.2.2.2.1 bt251.2.2.2.2).bind fun t256 => (if t256 = true then ((foolscaplaw13_text.f (⟨#[97, 98]⟩ : ByteArray)).bind fun bt257 => ((foolscaplaw13_fits.f k (⟨#[97, 126, 42]⟩ : ByteArray) bt257.1 bt257.2.1 bt257.2.2.1 bt257.2.2.2.1 bt257.2.2.2.2).bind fun t262 => (if t262 = true then (none) else ((foolscaplaw13_fits.f k (⟨#[60, 62, 120]⟩ : ByteArray) 0 0 (⟨#[]⟩ : ByteArray) false 0).bind fun t263 => (if t263 = true then ((foolscaplaw13_text.f (⟨#[88]⟩ : ByteArray)).bind fun bt264 => ((foolscaplaw13_fits.f k (⟨#[60, 62, 120]⟩ : ByteArray) bt264.1 bt264.2.1 bt264.2.2.1 bt264.2.2.2.1 bt264.2.2.2.2).bind fun t269 => (if t269 = true then (none) else ((crit_Like.f k (⟨#[63, 98, 42]⟩ : ByteArray) (⟨#[97, 98, 99]⟩ : ByteArray)).bind fun t270 => (if t270 = true then ((crit_Wild.f k (⟨#[97, 63]⟩ : ByteArray)).bind fun t271 => (if t271 = true then ((crit_Wild.f k (⟨#[97, 126, 63]⟩ : ByteArray)).bind fun t272 => (some (!t272))) else (none))) else (none)))))) else (none)))))) else (none)))) = some r := by rw [if_pos rfl] at H; exact H
    clear H
    have H := H1
    clear H1
    replace H := Option.bind_eq_some_iff.mp H
    obtain ⟨⟨t251, t252, t253, t254, t255⟩, A100, H⟩ := H
    replace H : ((foolscaplaw13_fits.f k (⟨#[97, 126, 42]⟩ : ByteArray) t251 t252 t253 t254 t255).bind fun t256 => (if t256 = true then ((foolscaplaw13_text.f (⟨#[97, 98]⟩ : ByteArray)).bind fun bt257 => ((foolscaplaw13_fits.f k (⟨#[97, 126, 42]⟩ : ByteArray) bt257.1 bt257.2.1 bt257.2.2.1 bt257.2.2.2.1 bt257.2.2.2.2).bind fun t262 => (if t262 = true then (none) else ((foolscaplaw13_fits.f k (⟨#[60, 62, 120]⟩ : ByteArray) 0 0 (⟨#[]⟩ : ByteArray) false 0).bind fun t263 => (if t263 = true then ((foolscaplaw13_text.f (⟨#[88]⟩ : ByteArray)).bind fun bt264 => ((foolscaplaw13_fits.f k (⟨#[60, 62, 120]⟩ : ByteArray) bt264.1 bt264.2.1 bt264.2.2.1 bt264.2.2.2.1 bt264.2.2.2.2).bind fun t269 => (if t269 = true then (none) else ((crit_Like.f k (⟨#[63, 98, 42]⟩ : ByteArray) (⟨#[97, 98, 99]⟩ : ByteArray)).bind fun t270 => (if t270 = true then ((crit_Wild.f k (⟨#[97, 63]⟩ : ByteArray)).bind fun t271 => (if t271 = true then ((crit_Wild.f k (⟨#[97, 126, 63]⟩ : ByteArray)).bind fun t272 => (some (!t272))) else (none))) else (none)))))) else (none)))))) else (none))) = some r := H
    have A10 := Aside0.mk A100
    clear A100
    replace H := Option.bind_eq_some_iff.mp H
    obtain ⟨t256, A110, H⟩ := H
    replace H : (if t256 = true then ((foolscaplaw13_text.f (⟨#[97, 98]⟩ : ByteArray)).bind fun bt257 => ((foolscaplaw13_fits.f k (⟨#[97, 126, 42]⟩ : ByteArray) bt257.1 bt257.2.1 bt257.2.2.1 bt257.2.2.2.1 bt257.2.2.2.2).bind fun t262 => (if t262 = true then (none) else ((foolscaplaw13_fits.f k (⟨#[60, 62, 120]⟩ : ByteArray) 0 0 (⟨#[]⟩ : ByteArray) false 0).bind fun t263 => (if t263 = true then ((foolscaplaw13_text.f (⟨#[88]⟩ : ByteArray)).bind fun bt264 => ((foolscaplaw13_fits.f k (⟨#[60, 62, 120]⟩ : ByteArray) bt264.1 bt264.2.1 bt264.2.2.1 bt264.2.2.2.1 bt264.2.2.2.2).bind fun t269 => (if t269 = true then (none) else ((crit_Like.f k (⟨#[63, 98, 42]⟩ : ByteArray) (⟨#[97, 98, 99]⟩ : ByteArray)).bind fun t270 => (if t270 = true then ((crit_Wild.f k (⟨#[97, 63]⟩ : ByteArray)).bind fun t271 => (if t271 = true then ((crit_Wild.f k (⟨#[97, 126, 63]⟩ : ByteArray)).bind fun t272 => (some (!t272))) else (none))) else (none)))))) else (none)))))) else (none)) = some r := H
    have A11 := Aside0.mk A110
    clear A110
    by_cases c12 : t256 = true
    ·subst c12
     have H1 : ((foolscaplaw13_text.f (⟨#[97, 98]⟩ : ByteArray)).bind fun bt257 => ((foolscaplaw13_fits.f k (⟨#[97, 126, 42]⟩ : ByteArray) bt257.1 bt257.2.1 bt257.2.2.1 bt257.2.2.2.1 bt257.2.2.2.2).bind fun t262 => (if t262 = true then (none) else ((foolscaplaw13_fits.f k (⟨#[60, 62, 120]⟩ : ByteArray) 0 0 (⟨#[]⟩ : ByteArray) false 0).bind fun t263 => (if t263 = true then ((foolscaplaw13_text.f (⟨#[88]⟩ : ByteArray)).bind fun bt264 => ((foolscaplaw13_fits.f k (⟨#[60, 62, 120]⟩ : ByteArray) bt264.1 bt264.2.1 bt264.2.2.1 bt264.2.2.2.1 bt264.2.2.2.2).bind fun t269 => (if t269 = true then (none) else ((crit_Like.f k (⟨#[63, 98, 42]⟩ : ByteArray) (⟨#[97, 98, 99]⟩ : ByteArray)).bind fun t270 => (if t270 = true then ((crit_Wild.f k (⟨#[97, 63]⟩ : ByteArray)).bind fun t271 => (if t271 = true then ((crit_Wild.f k (⟨#[97, 126, 63]⟩ : ByteArray)).bind fun t272 => (some (!t272))) else (none))) else (none)))))) else (none)))))) = some r := by rw [if_pos rfl] at H; exact H
     clear H
     have H := H1
     clear H1
     replace H := Option.bind_eq_some_iff.mp H
     obtain ⟨⟨t257, t258, t259, t260, t261⟩, A130, H⟩ := H
     replace H : ((foolscaplaw13_fits.f k (⟨#[97, 126, 42]⟩ : ByteArray) t257 t258 t259 t260 t261).bind fun t262 => (if t262 = true then (none) else ((foolscaplaw13_fits.f k (⟨#[60, 62, 120]⟩ : ByteArray) 0 0 (⟨#[]⟩ : ByteArray) false 0).bind fun t263 => (if t263 = true then ((foolscaplaw13_text.f (⟨#[88]⟩ : ByteArray)).bind fun bt264 => ((foolscaplaw13_fits.f k (⟨#[60, 62, 120]⟩ : ByteArray) bt264.1 bt264.2.1 bt264.2.2.1 bt264.2.2.2.1 bt264.2.2.2.2).bind fun t269 => (if t269 = true then (none) else ((crit_Like.f k (⟨#[63, 98, 42]⟩ : ByteArray) (⟨#[97, 98, 99]⟩ : ByteArray)).bind fun t270 => (if t270 = true then ((crit_Wild.f k (⟨#[97, 63]⟩ : ByteArray)).bind fun t271 => (if t271 = true then ((crit_Wild.f k (⟨#[97, 126, 63]⟩ : ByteArray)).bind fun t272 => (some (!t272))) else (none))) else (none)))))) else (none))))) = some r := H
     have A13 := Aside0.mk A130
     clear A130
     replace H := Option.bind_eq_some_iff.mp H
     obtain ⟨t262, A140, H⟩ := H
     replace H : (if t262 = true then (none) else ((foolscaplaw13_fits.f k (⟨#[60, 62, 120]⟩ : ByteArray) 0 0 (⟨#[]⟩ : ByteArray) false 0).bind fun t263 => (if t263 = true then ((foolscaplaw13_text.f (⟨#[88]⟩ : ByteArray)).bind fun bt264 => ((foolscaplaw13_fits.f k (⟨#[60, 62, 120]⟩ : ByteArray) bt264.1 bt264.2.1 bt264.2.2.1 bt264.2.2.2.1 bt264.2.2.2.2).bind fun t269 => (if t269 = true then (none) else ((crit_Like.f k (⟨#[63, 98, 42]⟩ : ByteArray) (⟨#[97, 98, 99]⟩ : ByteArray)).bind fun t270 => (if t270 = true then ((crit_Wild.f k (⟨#[97, 63]⟩ : ByteArray)).bind fun t271 => (if t271 = true then ((crit_Wild.f k (⟨#[97, 126, 63]⟩ : ByteArray)).bind fun t272 => (some (!t272))) else (none))) else (none)))))) else (none)))) = some r := H
     have A14 := Aside0.mk A140
     clear A140
     by_cases c15 : t262 = true
     ·subst c15
      have H1 : (none) = some r := by rw [if_pos rfl] at H; exact H
      clear H
      have H := H1
      clear H1
      exact absurd H (by simp)
     ·replace c15 := Bool.eq_false_iff.mpr c15
      subst c15
      have H1 : ((foolscaplaw13_fits.f k (⟨#[60, 62, 120]⟩ : ByteArray) 0 0 (⟨#[]⟩ : ByteArray) false 0).bind fun t263 => (if t263 = true then ((foolscaplaw13_text.f (⟨#[88]⟩ : ByteArray)).bind fun bt264 => ((foolscaplaw13_fits.f k (⟨#[60, 62, 120]⟩ : ByteArray) bt264.1 bt264.2.1 bt264.2.2.1 bt264.2.2.2.1 bt264.2.2.2.2).bind fun t269 => (if t269 = true then (none) else ((crit_Like.f k (⟨#[63, 98, 42]⟩ : ByteArray) (⟨#[97, 98, 99]⟩ : ByteArray)).bind fun t270 => (if t270 = true then ((crit_Wild.f k (⟨#[97, 63]⟩ : ByteArray)).bind fun t271 => (if t271 = true then ((crit_Wild.f k (⟨#[97, 126, 63]⟩ : ByteArray)).bind fun t272 => (some (!t272))) else (none))) else (none)))))) else (none))) = some r := by rw [if_neg (show ¬ (false = true) by decide)] at H; exact H
      clear H
      have H := H1
      clear H1
      replace H := Option.bind_eq_some_iff.mp H
      obtain ⟨t263, A160, H⟩ := H
      replace H : (if t263 = true then ((foolscaplaw13_text.f (⟨#[88]⟩ : ByteArray)).bind fun bt264 => ((foolscaplaw13_fits.f k (⟨#[60, 62, 120]⟩ : ByteArray) bt264.1 bt264.2.1 bt264.2.2.1 bt264.2.2.2.1 bt264.2.2.2.2).bind fun t269 => (if t269 = true then (none) else ((crit_Like.f k (⟨#[63, 98, 42]⟩ : ByteArray) (⟨#[97, 98, 99]⟩ : ByteArray)).bind fun t270 => (if t270 = true then ((crit_Wild.f k (⟨#[97, 63]⟩ : ByteArray)).bind fun t271 => (if t271 = true then ((crit_Wild.f k (⟨#[97, 126, 63]⟩ : ByteArray)).bind fun t272 => (some (!t272))) else (none))) else (none)))))) else (none)) = some r := H
      have A16 := Aside0.mk A160
      clear A160
      by_cases c17 : t263 = true
      ·subst c17
       have H1 : ((foolscaplaw13_text.f (⟨#[88]⟩ : ByteArray)).bind fun bt264 => ((foolscaplaw13_fits.f k (⟨#[60, 62, 120]⟩ : ByteArray) bt264.1 bt264.2.1 bt264.2.2.1 bt264.2.2.2.1 bt264.2.2.2.2).bind fun t269 => (if t269 = true then (none) else ((crit_Like.f k (⟨#[63, 98, 42]⟩ : ByteArray) (⟨#[97, 98, 99]⟩ : ByteArray)).bind fun t270 => (if t270 = true then ((crit_Wild.f k (⟨#[97, 63]⟩ : ByteArray)).bind fun t271 => (if t271 = true then ((crit_Wild.f k (⟨#[97, 126, 63]⟩ : ByteArray)).bind fun t272 => (some (!t272))) else (none))) else (none)))))) = some r := by rw [if_pos rfl] at H; exact H
       clear H
       have H := H1
       clear H1
       replace H := Option.bind_eq_some_iff.mp H
       obtain ⟨⟨t264, t265, t266, t267, t268⟩, A180, H⟩ := H
       replace H : ((foolscaplaw13_fits.f k (⟨#[60, 62, 120]⟩ : ByteArray) t264 t265 t266 t267 t268).bind fun t269 => (if t269 = true then (none) else ((crit_Like.f k (⟨#[63, 98, 42]⟩ : ByteArray) (⟨#[97, 98, 99]⟩ : ByteArray)).bind fun t270 => (if t270 = true then ((crit_Wild.f k (⟨#[97, 63]⟩ : ByteArray)).bind fun t271 => (if t271 = true then ((crit_Wild.f k (⟨#[97, 126, 63]⟩ : ByteArray)).bind fun t272 => (some (!t272))) else (none))) else (none))))) = some r := H
       have A18 := Aside0.mk A180
       clear A180
       replace H := Option.bind_eq_some_iff.mp H
       obtain ⟨t269, A190, H⟩ := H
       replace H : (if t269 = true then (none) else ((crit_Like.f k (⟨#[63, 98, 42]⟩ : ByteArray) (⟨#[97, 98, 99]⟩ : ByteArray)).bind fun t270 => (if t270 = true then ((crit_Wild.f k (⟨#[97, 63]⟩ : ByteArray)).bind fun t271 => (if t271 = true then ((crit_Wild.f k (⟨#[97, 126, 63]⟩ : ByteArray)).bind fun t272 => (some (!t272))) else (none))) else (none)))) = some r := H
       have A19 := Aside0.mk A190
       clear A190
       by_cases c20 : t269 = true
       ·subst c20
        have H1 : (none) = some r := by rw [if_pos rfl] at H; exact H
        clear H
        have H := H1
        clear H1
        exact absurd H (by simp)
       ·replace c20 := Bool.eq_false_iff.mpr c20
        subst c20
        have H1 : ((crit_Like.f k (⟨#[63, 98, 42]⟩ : ByteArray) (⟨#[97, 98, 99]⟩ : ByteArray)).bind fun t270 => (if t270 = true then ((crit_Wild.f k (⟨#[97, 63]⟩ : ByteArray)).bind fun t271 => (if t271 = true then ((crit_Wild.f k (⟨#[97, 126, 63]⟩ : ByteArray)).bind fun t272 => (some (!t272))) else (none))) else (none))) = some r := by rw [if_neg (show ¬ (false = true) by decide)] at H; exact H
        clear H
        have H := H1
        clear H1
        replace H := Option.bind_eq_some_iff.mp H
        obtain ⟨t270, A210, H⟩ := H
        replace H : (if t270 = true then ((crit_Wild.f k (⟨#[97, 63]⟩ : ByteArray)).bind fun t271 => (if t271 = true then ((crit_Wild.f k (⟨#[97, 126, 63]⟩ : ByteArray)).bind fun t272 => (some (!t272))) else (none))) else (none)) = some r := H
        have A21 := Aside0.mk A210
        clear A210
        by_cases c22 : t270 = true
        ·subst c22
         have H1 : ((crit_Wild.f k (⟨#[97, 63]⟩ : ByteArray)).bind fun t271 => (if t271 = true then ((crit_Wild.f k (⟨#[97, 126, 63]⟩ : ByteArray)).bind fun t272 => (some (!t272))) else (none))) = some r := by rw [if_pos rfl] at H; exact H
         clear H
         have H := H1
         clear H1
         replace H := Option.bind_eq_some_iff.mp H
         obtain ⟨t271, A230, H⟩ := H
         replace H : (if t271 = true then ((crit_Wild.f k (⟨#[97, 126, 63]⟩ : ByteArray)).bind fun t272 => (some (!t272))) else (none)) = some r := H
         have A23 := Aside0.mk A230
         clear A230
         by_cases c24 : t271 = true
         ·subst c24
          have H1 : ((crit_Wild.f k (⟨#[97, 126, 63]⟩ : ByteArray)).bind fun t272 => (some (!t272))) = some r := by rw [if_pos rfl] at H; exact H
          clear H
          have H := H1
          clear H1
          replace H := Option.bind_eq_some_iff.mp H
          obtain ⟨t272, A250, H⟩ := H
          replace H : (some (!t272)) = some r := H
          have A25 := Aside0.mk A250
          clear A250
          obtain rfl := Option.some.inj H
          go_enter Tryz.func11, Tryz.ntmps11
          go_wp2_with (first | ((with_reducible refine gate_callee (f := 25) rfl ?_); refine goesL_ (some 1) rfl rfl Tryz.func25 (by kernel_rfl) rfl #[.int .i64 7000000] rfl (by (try simp only [List.map_toArray, List.map_cons, List.map_nil]); first | done | rfl) ?_; (with_reducible refine (foolscaplaw13_number.calls 7000000 t233 t234 t235 t236 t237 _ A1.out).mono ?_); rintro e w26 ⟨rfl, hb⟩; refine ⟨_, rfl, ?_⟩; have n0_ := Aside0.mk (below_step (by repeat (first | (with_reducible first | exact HB.out | apply bqA | apply bqN | apply bqD) | exact HB.out)) hb); clear HB; have HB := n0_; clear n0_; (try clear hb); (try clear hb2); (try clear hk); (try clear hi)) | ((with_reducible refine gate_callee (f := 24) rfl ?_); refine goesL_ (some 2) rfl rfl Tryz.func24 (by kernel_rfl) rfl #[.string (⟨#[62, 61, 53]⟩ : ByteArray), .agg #[.int .i64 t233, .int .i64 t234, .string t235, .bool t236, .int .i64 t237]] rfl (by (try simp only [List.map_toArray, List.map_cons, List.map_nil]); first | done | rfl) ?_; (with_reducible refine (foolscaplaw13_fits.calls k (⟨#[62, 61, 53]⟩ : ByteArray) t233 t234 t235 t236 t237 true _ A2.out).mono ?_); rintro e w27 ⟨rfl, hb⟩; refine ⟨_, rfl, ?_⟩; have n0_ := Aside0.mk (below_step (by repeat (first | (with_reducible first | exact HB.out | apply bqA | apply bqN | apply bqD) | exact HB.out)) hb); clear HB; have HB := n0_; clear n0_; (try clear hb); (try clear hb2); (try clear hk); (try clear hi)) | (go_at_call 26; (with_reducible refine (foolscaplaw13_text.calls (⟨#[55]⟩ : ByteArray) t239 t240 t241 t242 t243 _ A4.out).mono ?_); rintro e w28 ⟨rfl, hb⟩; have n0_ := Aside0.mk (below_step (by repeat (first | (with_reducible first | exact HB.out | apply bqA | apply bqN | apply bqD) | exact HB.out)) hb); clear HB; have HB := n0_; clear n0_; (try clear hb); (try clear hb2); (try clear hk); (try clear hi)) | (go_at_call 24; (with_reducible refine (foolscaplaw13_fits.calls k (⟨#[62, 61, 53]⟩ : ByteArray) t239 t240 t241 t242 t243 false _ A5.out).mono ?_); rintro e w29 ⟨rfl, hb⟩; have n0_ := Aside0.mk (below_step (by repeat (first | (with_reducible first | exact HB.out | apply bqA | apply bqN | apply bqD) | exact HB.out)) hb); clear HB; have HB := n0_; clear n0_; (try clear hb); (try clear hb2); (try clear hk); (try clear hi)) | (go_at_call 26; (with_reducible refine (foolscaplaw13_text.calls (⟨#[65, 98, 99]⟩ : ByteArray) t245 t246 t247 t248 t249 _ A7.out).mono ?_); rintro e w30 ⟨rfl, hb⟩; have n0_ := Aside0.mk (below_step (by repeat (first | (with_reducible first | exact HB.out | apply bqA | apply bqN | apply bqD) | exact HB.out)) hb); clear HB; have HB := n0_; clear n0_; (try clear hb); (try clear hb2); (try clear hk); (try clear hi)) | (go_at_call 24; (with_reducible refine (foolscaplaw13_fits.calls k (⟨#[97, 42]⟩ : ByteArray) t245 t246 t247 t248 t249 true _ A8.out).mono ?_); rintro e w31 ⟨rfl, hb⟩; have n0_ := Aside0.mk (below_step (by repeat (first | (with_reducible first | exact HB.out | apply bqA | apply bqN | apply bqD) | exact HB.out)) hb); clear HB; have HB := n0_; clear n0_; (try clear hb); (try clear hb2); (try clear hk); (try clear hi)) | (go_at_call 26; (with_reducible refine (foolscaplaw13_text.calls (⟨#[97, 42]⟩ : ByteArray) t251 t252 t253 t254 t255 _ A10.out).mono ?_); rintro e w32 ⟨rfl, hb⟩; have n0_ := Aside0.mk (below_step (by repeat (first | (with_reducible first | exact HB.out | apply bqA | apply bqN | apply bqD) | exact HB.out)) hb); clear HB; have HB := n0_; clear n0_; (try clear hb); (try clear hb2); (try clear hk); (try clear hi)) | (go_at_call 24; (with_reducible refine (foolscaplaw13_fits.calls k (⟨#[97, 126, 42]⟩ : ByteArray) t251 t252 t253 t254 t255 true _ A11.out).mono ?_); rintro e w33 ⟨rfl, hb⟩; have n0_ := Aside0.mk (below_step (by repeat (first | (with_reducible first | exact HB.out | apply bqA | apply bqN | apply bqD) | exact HB.out)) hb); clear HB; have HB := n0_; clear n0_; (try clear hb); (try clear hb2); (try clear hk); (try clear hi)) | (go_at_call 26; (with_reducible refine (foolscaplaw13_text.calls (⟨#[97, 98]⟩ : ByteArray) t257 t258 t259 t260 t261 _ A13.out).mono ?_); rintro e w34 ⟨rfl, hb⟩; have n0_ := Aside0.mk (below_step (by repeat (first | (with_reducible first | exact HB.out | apply bqA | apply bqN | apply bqD) | exact HB.out)) hb); clear HB; have HB := n0_; clear n0_; (try clear hb); (try clear hb2); (try clear hk); (try clear hi)) | (go_at_call 24; (with_reducible refine (foolscaplaw13_fits.calls k (⟨#[97, 126, 42]⟩ : ByteArray) t257 t258 t259 t260 t261 false _ A14.out).mono ?_); rintro e w35 ⟨rfl, hb⟩; have n0_ := Aside0.mk (below_step (by repeat (first | (with_reducible first | exact HB.out | apply bqA | apply bqN | apply bqD) | exact HB.out)) hb); clear HB; have HB := n0_; clear n0_; (try clear hb); (try clear hb2); (try clear hk); (try clear hi)) | (go_at_call 24; (with_reducible refine (foolscaplaw13_fits.calls k (⟨#[60, 62, 120]⟩ : ByteArray) 0 0 (⟨#[]⟩ : ByteArray) false 0 true _ A16.out).mono ?_); rintro e w36 ⟨rfl, hb⟩; have n0_ := Aside0.mk (below_step (by repeat (first | (with_reducible first | exact HB.out | apply bqA | apply bqN | apply bqD) | exact HB.out)) hb); clear HB; have HB := n0_; clear n0_; (try clear hb); (try clear hb2); (try clear hk); (try clear hi)) | (go_at_call 26; (with_reducible refine (foolscaplaw13_text.calls (⟨#[88]⟩ : ByteArray) t264 t265 t266 t267 t268 _ A18.out).mono ?_); rintro e w37 ⟨rfl, hb⟩; have n0_ := Aside0.mk (below_step (by repeat (first | (with_reducible first | exact HB.out | apply bqA | apply bqN | apply bqD) | exact HB.out)) hb); clear HB; have HB := n0_; clear n0_; (try clear hb); (try clear hb2); (try clear hk); (try clear hi)) | (go_at_call 24; (with_reducible refine (foolscaplaw13_fits.calls k (⟨#[60, 62, 120]⟩ : ByteArray) t264 t265 t266 t267 t268 false _ A19.out).mono ?_); rintro e w38 ⟨rfl, hb⟩; have n0_ := Aside0.mk (below_step (by repeat (first | (with_reducible first | exact HB.out | apply bqA | apply bqN | apply bqD) | exact HB.out)) hb); clear HB; have HB := n0_; clear n0_; (try clear hb); (try clear hb2); (try clear hk); (try clear hi)) | (go_at_call 27; (with_reducible refine (crit_Like.calls k (⟨#[63, 98, 42]⟩ : ByteArray) (⟨#[97, 98, 99]⟩ : ByteArray) true _ A21.out).mono ?_); rintro e w39 ⟨rfl, hb⟩; have n0_ := Aside0.mk (below_step (by repeat (first | (with_reducible first | exact HB.out | apply bqA | apply bqN | apply bqD) | exact HB.out)) hb); clear HB; have HB := n0_; clear n0_; (try clear hb); (try clear hb2); (try clear hk); (try clear hi)) | (go_at_call 28; (with_reducible refine (crit_Wild.calls k (⟨#[97, 63]⟩ : ByteArray) true _ A23.out).mono ?_); rintro e w40 ⟨rfl, hb⟩; have n0_ := Aside0.mk (below_step (by repeat (first | (with_reducible first | exact HB.out | apply bqA | apply bqN | apply bqD) | exact HB.out)) hb); clear HB; have HB := n0_; clear n0_; (try clear hb); (try clear hb2); (try clear hk); (try clear hi)) | (go_at_call 28; (with_reducible refine (crit_Wild.calls k (⟨#[97, 126, 63]⟩ : ByteArray) t272 _ A25.out).mono ?_); rintro e w41 ⟨rfl, hb⟩; have n0_ := Aside0.mk (below_step (by repeat (first | (with_reducible first | exact HB.out | apply bqA | apply bqN | apply bqD) | exact HB.out)) hb); clear HB; have HB := n0_; clear n0_; (try clear hb); (try clear hb2); (try clear hk); (try clear hi)))
          go_ret
          exact ⟨by first | rfl | (simp [errW_none, errW_some] <;> rfl) | (simp [*, errW_none, errW_some] <;> rfl), by repeat (first | (with_reducible first | exact HB.out | apply bqA | apply bqN | apply bqD) | exact HB.out)⟩
         ·replace c24 := Bool.eq_false_iff.mpr c24
          subst c24
          have H1 : (none) = some r := by rw [if_neg (show ¬ (false = true) by decide)] at H; exact H
          clear H
          have H := H1
          clear H1
          exact absurd H (by simp)
        ·replace c22 := Bool.eq_false_iff.mpr c22
         subst c22
         have H1 : (none) = some r := by rw [if_neg (show ¬ (false = true) by decide)] at H; exact H
         clear H
         have H := H1
         clear H1
         exact absurd H (by simp)
      ·replace c17 := Bool.eq_false_iff.mpr c17
       subst c17
       have H1 : (none) = some r := by rw [if_neg (show ¬ (false = true) by decide)] at H; exact H
       clear H
       have H := H1
       clear H1
       exact absurd H (by simp)
    ·replace c12 := Bool.eq_false_iff.mpr c12
     subst c12
     have H1 : (none) = some r := by rw [if_neg (show ¬ (false = true) by decide)] at H; exact H
     clear H
     have H := H1
     clear H1
     exact absurd H (by simp)
   ·replace c9 := Bool.eq_false_iff.mpr c9
    subst c9
    have H1 : (none) = some r := by rw [if_neg (show ¬ (false = true) by decide)] at H; exact H
    clear H
    have H := H1
    clear H1
    exact absurd H (by simp)
 ·replace c3 := Bool.eq_false_iff.mpr c3
  subst c3
  have H1 : (none) = some r := by rw [if_neg (show ¬ (false = true) by decide)] at H; exact H
  clear H
  have H := H1
  clear H1
  exact absurd H (by simp)
end Go.Proofs.YtngdggmlfoogcaaGreatDoor.Pr
end
