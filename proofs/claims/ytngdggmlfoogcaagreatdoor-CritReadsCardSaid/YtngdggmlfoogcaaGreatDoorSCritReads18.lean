/-
  What the law CritReads leans on, out of the texts that were printed and written for this seat: only what its proof mentions (gathered by a program of the author's).
-/
import Derived.Test.YtngdggmlfoogcaaGreatDoorSCritReads4
import Derived.Test.YtngdggmlfoogcaaGreatDoorSCritReads16
import Derived.Test.YtngdggmlfoogcaaGreatDoorSCritReads17
import Derived.Test.YtngdggmlfoogcaaGreatDoorSCritReads6
import Derived.Test.YtngdggmlfoogcaaGreatDoorSCritReads14
import Derived.Test.YtngdggmlfoogcaaGreatDoorSCritReads15
section
namespace Go.Proofs.YtngdggmlfoogcaaGreatDoor.Pr
open Go.RowKit Go.Proofs.YtngdggmlfoogcaaGreatDoorW.PrintWords Go.Proofs.YtngdggmlfoogcaaGreatDoorW.PrintLast Go.Proofs.YtngdggmlfoogcaaGreatDoorW.PrintMore
attribute [local go_sem] max2_int min2_int max_two min_two max_three min_three max_four min_four   -- for this text's walks alone
set_option linter.unusedVariables false
set_option linter.unusedSimpArgs false
def crit_Wild.l0 : Nat → List (S66) → Int → Int → Option (Bool)
  | 0, _, _, _ => none
  | k + 1, x6, x7, x8 => if x8 < x7 then (if 0 ≤ x8 then (if x8 < (x6.length : Int) then (if (rd_T66 x6 x8).f0 = true then (some true) else (if (rd_T66 x6 x8).f1 = true then (some true) else (crit_Wild.l0 k x6 x7 (wrap64 (x8 + 1))))) else (none)) else (none)) else (some false)
def crit_Wild.f (k : Nat) (a0 : ByteArray) : Option (Bool) := (crit_steps.f k a0).bind fun t228 => (crit_Wild.l0 k t228 (t228.length : Int) 0)
set_option maxHeartbeats 8000000 in
set_option maxRecDepth 100000 in
theorem crit_Wild.calls (k : Nat) (a0 : ByteArray) (r : Bool) (w : World) (h : crit_Wild.f k a0 = some r) :
    Calls Tryz.prog 28 #[.string a0] w fun e w' => e = .returned (.bool r) ∧ Below w.heap.size w w' := by
  have hu66 := Tryz.underlying66
  have HB := Aside0.mk (Below.refl w.heap.size w)
  have H : ((crit_steps.f k a0).bind fun t228 => (crit_Wild.l0 k t228 (t228.length : Int) 0)) = some r := h
  clear h
  replace H := Option.bind_eq_some_iff.mp H
  obtain ⟨t228, A20, H⟩ := H
  replace H : (crit_Wild.l0 k t228 (t228.length : Int) 0) = some r := H
  have A2 := Aside0.mk A20
  clear A20
  have H' := Aside0.mk H
  clear H
  go_enter Tryz.func28, Tryz.ntmps28
  go_wp2_with (first | ((with_reducible refine gate_callee (f := 35) rfl ?_); refine goesL_ (some 6) rfl rfl Tryz.func35 (by kernel_rfl) rfl #[.string a0] rfl (by (try simp only [List.map_toArray, List.map_cons, List.map_nil]); first | done | rfl | (simp only [List.length_drop, List.length_take]; rfl) | (simp only [ByteArray.size_append, Int.natCast_add]; done) | (simp only [ByteArray.size_append, Int.natCast_add]; rfl) | (simp only [Array.mk.injEq, List.cons.injEq, Value.int.injEq, true_and, and_true]; (try simp only [mx, mn, wrap64] at *); omega)) ?_; (with_reducible refine (crit_steps.calls k a0 t228 _ A2.out).mono ?_); rintro e w3 ⟨v229, rfl, ho0, hb⟩; refine ⟨_, rfl, ?_⟩; have n0_ := Aside0.mk (Kd.R_lower ho0 (below_size (by repeat (first | (with_reducible first | exact HB.out | apply below_alloc | apply pw_below_drewN | apply below_drew1) | exact HB.out)))); have n1_ := Aside0.mk (below_step (by repeat (first | (with_reducible first | exact HB.out | apply below_alloc | apply pw_below_drewN | apply below_drew1) | exact HB.out)) hb); clear HB; have HO230 := n0_; have HB := n1_; clear n0_ n1_; (try clear hb); (try clear hb2); (try clear hk); (try clear hi); (try clear ho0); obtain ⟨Ao4, co4, eo4⟩ := Kd.R_slice HO230.out; subst eo4))
  go_loopg [8] k (fun kq v8 w' => ∃ (x8_1 : Int), v8 = .int .i64 x8_1 ∧ Aside0 (crit_Wild.l0 kq t228 (t228.length : Int) x8_1 = some r) ∧ Aside0 (kq ≤ k) ∧ Aside0 (Kd.R k66 66 w' w.heap.size (fun _ => True) (.slice Ao4 t228.length co4) t228) ∧ Aside0 (Below w.heap.size w w'))
  case atStart => exact ⟨(0), (by first | rfl | (simp; done) | (simp [*]; done)), H', ⟨Nat.le_refl _⟩, ⟨by (with_reducible repeat (first | apply Kd.R_alloc | apply Kd.R_drewN | apply Kd.R_drew)); exact HO230.out⟩, ⟨by repeat (first | (with_reducible first | exact HB.out | apply below_alloc | apply pw_below_drewN | apply below_drew1) | exact HB.out)⟩⟩
  case round =>
    clear H'
    try clear c2
    try clear p2
    try clear c3
    obtain ⟨x8_1, rfl, HA, HK1, HO_6, HB⟩ := hrel
    cases gk with
    | zero => exact absurd HA.out (by simp [crit_Wild.l0])
    | succ k1 =>
      have H := HA.out
      clear HA
      simp only [crit_Wild.l0] at H
      by_cases c5 : x8_1 < (t228.length : Int)
      · rw [if_pos c5] at H
        have c5b0 : decide (x8_1 < (t228.length : Int)) = true := decide_eq_true c5
        clear c5
        by_cases c6 : 0 ≤ x8_1
        · rw [if_pos c6] at H
          have c6b0 : decide (0 ≤ x8_1) = true := decide_eq_true c6
          clear c6
          by_cases c7 : x8_1 < (t228.length : Int)
          · rw [if_pos c7] at H
            have c7b0 : decide (x8_1 < (t228.length : Int)) = true := decide_eq_true c7
            clear c7
            obtain ⟨bq8, hbq8⟩ : ∃ b_ : Bool, b_ = ((rd_T66 t228 x8_1).f0) := ⟨_, rfl⟩
            replace H : (if bq8 = true then (some true) else (if (rd_T66 t228 x8_1).f1 = true then (some true) else (crit_Wild.l0 k1 t228 (t228.length : Int) (wrap64 (x8_1 + 1))))) = some r := by rw [← hbq8] at H; exact H
            have Nbq8 := Aside0.mk hbq8
            clear hbq8
            by_cases c9 : bq8 = true
            · subst c9
              have H1 : (some true) = some r := by rw [if_pos rfl] at H; exact H
              clear H
              have H := H1
              clear H1
              obtain rfl := Option.some.inj H
              have p231 : 0 ≤ (x8_1 : Int) := of_decide_eq_true (by first | (with_reducible assumption) | assumption)
              have q231 : x8_1 < (t228.length : Int) := of_decide_eq_true (by first | (with_reducible assumption) | assumption)
              obtain ⟨ad231, e231, hx231_0, hx231_1, hx231_2⟩ := at_T66 (Kd.R_reads' HO_6.out).2.2 x8_1 p231 q231
              (try rw [← Nbq8.out] at hx231_0)
              (try rw [← Nbq8.out] at hx231_1)
              cases e231
              replace p231 := eq_true p231
              replace q231 := eq_true q231
              go_wp2_with (first | ((with_reducible refine gate_dst (N := 4) rfl ?_); refine box_event ?hg (N := 4) ?hd (cs := #[.bool false, .bool false, .int .u8 0]) (t := 66) ?hr ?_; (case hd => rfl); (case hg => rfl); (case hr => first | (go_simp; done) | (go_simp; rfl)); intro gb232 hg w10 hbox hb; have n0_ := Aside0.mk (Kd.R_below (Kd.R_elderB (by (with_reducible repeat (first | apply Kd.R_alloc | apply Kd.R_drewN | apply Kd.R_drew)); exact HO_6.out) gb232 (Nat.le_of_eq hg.symm)) hb); have n1_ := Aside0.mk (below_step (by repeat (first | (with_reducible first | exact HB.out | apply below_alloc | apply pw_below_drewN | apply below_drew1) | exact HB.out)) hb); have n2_ := Aside0.mk (hbox); have n3_ := Aside0.mk ((by rw [hg]; exact (below_size (by repeat (first | (with_reducible first | exact HB.out | apply below_alloc | apply pw_below_drewN | apply below_drew1) | exact HB.out))) : w.heap.size ≤ gb232)); have n4_ := Aside0.mk ((by rw [hg]; exact (below_size (by repeat (first | (with_reducible first | exact HB.out | apply below_alloc | apply pw_below_drewN | apply below_drew1) | exact HB.out))) : w.heap.size ≤ gb232)); clear HO_6; clear HB; have HO_6 := n0_; have HB := n1_; have BK232 := n2_; have GW232 := n3_; have GE232 := n4_; clear n0_ n1_ n2_ n3_ n4_; clear hb hbox hg; have hcz11_0 : w10.cell? ⟨gb232, 0, none⟩ = some (.bool false) := (blk_cell BK232.out 0).trans rfl; have hcz11_1 : w10.cell? ⟨gb232, 1, none⟩ = some (.bool false) := (blk_cell BK232.out 1).trans rfl; have hcz11_2 : w10.cell? ⟨gb232, 2, none⟩ = some (.int .u8 0) := (blk_cell BK232.out 2).trans rfl; have hfz11_0 := blk_frozen BK232.out 0; have hfz11_1 := blk_frozen BK232.out 1; have hfz11_2 := blk_frozen BK232.out 2))
              go_ret
              exact ⟨by first | rfl | (simp [errW_none, errW_some] <;> rfl) | (simp [*, errW_none, errW_some] <;> rfl), by repeat (first | (with_reducible first | exact HB.out | apply below_alloc | apply pw_below_drewN | apply below_drew1 | refine below_set ?_ GE232.out) | exact HB.out)⟩
            · replace c9 := Bool.eq_false_iff.mpr c9
              subst c9
              have H1 : (if (rd_T66 t228 x8_1).f1 = true then (some true) else (crit_Wild.l0 k1 t228 (t228.length : Int) (wrap64 (x8_1 + 1)))) = some r := by rw [if_neg (show ¬ (false = true) by decide)] at H; exact H
              clear H
              have H := H1
              clear H1
              obtain ⟨bq12, hbq12⟩ : ∃ b_ : Bool, b_ = ((rd_T66 t228 x8_1).f1) := ⟨_, rfl⟩
              replace H : (if bq12 = true then (some true) else (crit_Wild.l0 k1 t228 (t228.length : Int) (wrap64 (x8_1 + 1)))) = some r := by rw [← hbq12] at H; exact H
              have Nbq12 := Aside0.mk hbq12
              clear hbq12
              by_cases c13 : bq12 = true
              · subst c13
                have H1 : (some true) = some r := by rw [if_pos rfl] at H; exact H
                clear H
                have H := H1
                clear H1
                obtain rfl := Option.some.inj H
                have p231 : 0 ≤ (x8_1 : Int) := of_decide_eq_true (by first | (with_reducible assumption) | assumption)
                have q231 : x8_1 < (t228.length : Int) := of_decide_eq_true (by first | (with_reducible assumption) | assumption)
                obtain ⟨ad231, e231, hx231_0, hx231_1, hx231_2⟩ := at_T66 (Kd.R_reads' HO_6.out).2.2 x8_1 p231 q231
                (try rw [← Nbq8.out] at hx231_0)
                (try rw [← Nbq12.out] at hx231_0)
                (try rw [← Nbq8.out] at hx231_1)
                (try rw [← Nbq12.out] at hx231_1)
                cases e231
                replace p231 := eq_true p231
                replace q231 := eq_true q231
                go_wp2_with (first | ((with_reducible refine gate_dst (N := 4) rfl ?_); refine box_event ?hg (N := 4) ?hd (cs := #[.bool false, .bool false, .int .u8 0]) (t := 66) ?hr ?_; (case hd => rfl); (case hg => rfl); (case hr => first | (go_simp; done) | (go_simp; rfl)); intro gb232 hg w14 hbox hb; have n0_ := Aside0.mk (Kd.R_below (Kd.R_elderB (by (with_reducible repeat (first | apply Kd.R_alloc | apply Kd.R_drewN | apply Kd.R_drew)); exact HO_6.out) gb232 (Nat.le_of_eq hg.symm)) hb); have n1_ := Aside0.mk (below_step (by repeat (first | (with_reducible first | exact HB.out | apply below_alloc | apply pw_below_drewN | apply below_drew1) | exact HB.out)) hb); have n2_ := Aside0.mk (hbox); have n3_ := Aside0.mk ((by rw [hg]; exact (below_size (by repeat (first | (with_reducible first | exact HB.out | apply below_alloc | apply pw_below_drewN | apply below_drew1) | exact HB.out))) : w.heap.size ≤ gb232)); have n4_ := Aside0.mk ((by rw [hg]; exact (below_size (by repeat (first | (with_reducible first | exact HB.out | apply below_alloc | apply pw_below_drewN | apply below_drew1) | exact HB.out))) : w.heap.size ≤ gb232)); clear HO_6; clear HB; have HO_6 := n0_; have HB := n1_; have BK232 := n2_; have GW232 := n3_; have GE232 := n4_; clear n0_ n1_ n2_ n3_ n4_; clear hb hbox hg; have hcz15_0 : w14.cell? ⟨gb232, 0, none⟩ = some (.bool false) := (blk_cell BK232.out 0).trans rfl; have hcz15_1 : w14.cell? ⟨gb232, 1, none⟩ = some (.bool false) := (blk_cell BK232.out 1).trans rfl; have hcz15_2 : w14.cell? ⟨gb232, 2, none⟩ = some (.int .u8 0) := (blk_cell BK232.out 2).trans rfl; have hfz15_0 := blk_frozen BK232.out 0; have hfz15_1 := blk_frozen BK232.out 1; have hfz15_2 := blk_frozen BK232.out 2))
                go_ret
                exact ⟨by first | rfl | (simp [errW_none, errW_some] <;> rfl) | (simp [*, errW_none, errW_some] <;> rfl), by repeat (first | (with_reducible first | exact HB.out | apply below_alloc | apply pw_below_drewN | apply below_drew1 | refine below_set ?_ GE232.out) | exact HB.out)⟩
              · replace c13 := Bool.eq_false_iff.mpr c13
                subst c13
                have H1 : (crit_Wild.l0 k1 t228 (t228.length : Int) (wrap64 (x8_1 + 1))) = some r := by rw [if_neg (show ¬ (false = true) by decide)] at H; exact H
                clear H
                have H := H1
                clear H1
                have H' := Aside0.mk H
                clear H
                have p231 : 0 ≤ (x8_1 : Int) := of_decide_eq_true (by first | (with_reducible assumption) | assumption)
                have q231 : x8_1 < (t228.length : Int) := of_decide_eq_true (by first | (with_reducible assumption) | assumption)
                obtain ⟨ad231, e231, hx231_0, hx231_1, hx231_2⟩ := at_T66 (Kd.R_reads' HO_6.out).2.2 x8_1 p231 q231
                (try rw [← Nbq8.out] at hx231_0)
                (try rw [← Nbq12.out] at hx231_0)
                (try rw [← Nbq8.out] at hx231_1)
                (try rw [← Nbq12.out] at hx231_1)
                cases e231
                replace p231 := eq_true p231
                replace q231 := eq_true q231
                go_wp2_with (first | ((with_reducible refine gate_dst (N := 4) rfl ?_); refine box_event ?hg (N := 4) ?hd (cs := #[.bool false, .bool false, .int .u8 0]) (t := 66) ?hr ?_; (case hd => rfl); (case hg => rfl); (case hr => first | (go_simp; done) | (go_simp; rfl)); intro gb232 hg w16 hbox hb; have n0_ := Aside0.mk (Kd.R_below (Kd.R_elderB (by (with_reducible repeat (first | apply Kd.R_alloc | apply Kd.R_drewN | apply Kd.R_drew)); exact HO_6.out) gb232 (Nat.le_of_eq hg.symm)) hb); have n1_ := Aside0.mk (below_step (by repeat (first | (with_reducible first | exact HB.out | apply below_alloc | apply pw_below_drewN | apply below_drew1) | exact HB.out)) hb); have n2_ := Aside0.mk (hbox); have n3_ := Aside0.mk ((by rw [hg]; exact (below_size (by repeat (first | (with_reducible first | exact HB.out | apply below_alloc | apply pw_below_drewN | apply below_drew1) | exact HB.out))) : w.heap.size ≤ gb232)); have n4_ := Aside0.mk ((by rw [hg]; exact (below_size (by repeat (first | (with_reducible first | exact HB.out | apply below_alloc | apply pw_below_drewN | apply below_drew1) | exact HB.out))) : w.heap.size ≤ gb232)); clear HO_6; clear HB; have HO_6 := n0_; have HB := n1_; have BK232 := n2_; have GW232 := n3_; have GE232 := n4_; clear n0_ n1_ n2_ n3_ n4_; clear hb hbox hg; have hcz17_0 : w16.cell? ⟨gb232, 0, none⟩ = some (.bool false) := (blk_cell BK232.out 0).trans rfl; have hcz17_1 : w16.cell? ⟨gb232, 1, none⟩ = some (.bool false) := (blk_cell BK232.out 1).trans rfl; have hcz17_2 : w16.cell? ⟨gb232, 2, none⟩ = some (.int .u8 0) := (blk_cell BK232.out 2).trans rfl; have hfz17_0 := blk_frozen BK232.out 0; have hfz17_1 := blk_frozen BK232.out 1; have hfz17_2 := blk_frozen BK232.out 2))
                go_roundg k1
                case measure => have := HK1.out; omega
                case rel => exact ⟨(wrap64 (x8_1 + 1)), (by first | rfl | (simp; done) | (simp [*]; done)), H', ⟨by have := HK1.out; omega⟩, ⟨by (with_reducible repeat (first | apply Kd.R_alloc | apply Kd.R_drewN | apply Kd.R_drew)); exact Kd.R_mono (Kd.R_far (p := ⟨gb232, 2, none⟩) (Kd.R_far (p := ⟨gb232, 1, none⟩) (Kd.R_far (p := ⟨gb232, 0, none⟩) (Kd.R_mono HO_6.out (fun k_ hk => (⟨hk, hk.2⟩ : _ ∧ k_ ≠ gb232))) (fun _ hk => hk.2) (.bool false)) (fun _ hk => hk.2) (.bool false)) (fun _ hk => hk.2) (.int .u8 ((rd_T66 t228 x8_1).f2))) (fun _ hk => trivial)⟩, ⟨by repeat (first | (with_reducible first | exact HB.out | apply below_alloc | apply pw_below_drewN | apply below_drew1 | refine below_set ?_ GE232.out) | exact HB.out)⟩⟩
          · rw [if_neg c7] at H
            exact absurd H (by simp)
        · rw [if_neg c6] at H
          exact absurd H (by simp)
      · rw [if_neg c5] at H
        have c5b0 : decide (x8_1 < (t228.length : Int)) = false := decide_eq_false c5
        clear c5
        obtain rfl := Option.some.inj H
        go_wp2
        go_ret
        exact ⟨by first | rfl | (simp [errW_none, errW_some] <;> rfl) | (simp [*, errW_none, errW_some] <;> rfl), by repeat (first | (with_reducible first | exact HB.out | apply below_alloc | apply pw_below_drewN | apply below_drew1) | exact HB.out)⟩
def foolscaplaw13_lives.f (k : Nat)  : Option (Bool) := (foolscaplaw13_number.f 7000000).bind fun bt233 => ((foolscaplaw13_fits.f k (⟨#[62, 61, 53]⟩ : ByteArray) bt233.1 bt233.2.1 bt233.2.2.1 bt233.2.2.2.1 bt233.2.2.2.2).bind fun t238 => (if t238 = true then ((foolscaplaw13_text.f (⟨#[55]⟩ : ByteArray)).bind fun bt239 => ((foolscaplaw13_fits.f k (⟨#[62, 61, 53]⟩ : ByteArray) bt239.1 bt239.2.1 bt239.2.2.1 bt239.2.2.2.1 bt239.2.2.2.2).bind fun t244 => (if t244 = true then (none) else ((foolscaplaw13_text.f (⟨#[65, 98, 99]⟩ : ByteArray)).bind fun bt245 => ((foolscaplaw13_fits.f k (⟨#[97, 42]⟩ : ByteArray) bt245.1 bt245.2.1 bt245.2.2.1 bt245.2.2.2.1 bt245.2.2.2.2).bind fun t250 => (if t250 = true then ((foolscaplaw13_text.f (⟨#[97, 42]⟩ : ByteArray)).bind fun bt251 => ((foolscaplaw13_fits.f k (⟨#[97, 126, 42]⟩ : ByteArray) bt251.1 bt251.2.1 bt251.2.2.1 bt251.2.2.2.1 bt251.2.2.2.2).bind fun t256 => (if t256 = true then ((foolscaplaw13_text.f (⟨#[97, 98]⟩ : ByteArray)).bind fun bt257 => ((foolscaplaw13_fits.f k (⟨#[97, 126, 42]⟩ : ByteArray) bt257.1 bt257.2.1 bt257.2.2.1 bt257.2.2.2.1 bt257.2.2.2.2).bind fun t262 => (if t262 = true then (none) else ((foolscaplaw13_fits.f k (⟨#[60, 62, 120]⟩ : ByteArray) 0 0 (⟨#[]⟩ : ByteArray) false 0).bind fun t263 => (if t263 = true then ((foolscaplaw13_text.f (⟨#[88]⟩ : ByteArray)).bind fun bt264 => ((foolscaplaw13_fits.f k (⟨#[60, 62, 120]⟩ : ByteArray) bt264.1 bt264.2.1 bt264.2.2.1 bt264.2.2.2.1 bt264.2.2.2.2).bind fun t269 => (if t269 = true then (none) else ((crit_Like.f k (⟨#[63, 98, 42]⟩ : ByteArray) (⟨#[97, 98, 99]⟩ : ByteArray)).bind fun t270 => (if t270 = true then ((crit_Wild.f k (⟨#[97, 63]⟩ : ByteArray)).bind fun t271 => (if t271 = true then ((crit_Wild.f k (⟨#[97, 126, 63]⟩ : ByteArray)).bind fun t272 => (some (!t272))) else (none))) else (none)))))) else (none)))))) else (none)))) else (none))))))) else (none)))
set_option maxHeartbeats 8000000 in
set_option maxRecDepth 100000 in
theorem foolscaplaw13_lives.calls (k : Nat)  (r : Bool) (w : World) (h : foolscaplaw13_lives.f k  = some r) :
    Calls Tryz.prog 11 #[] w fun e w' => e = .returned (.bool r) ∧ Below w.heap.size w w' := by
  have hu25 := Tryz.underlying25
  have HB := Aside0.mk (Below.refl w.heap.size w)
  have H : ((foolscaplaw13_number.f 7000000).bind fun bt233 => ((foolscaplaw13_fits.f k (⟨#[62, 61, 53]⟩ : ByteArray) bt233.1 bt233.2.1 bt233.2.2.1 bt233.2.2.2.1 bt233.2.2.2.2).bind fun t238 => (if t238 = true then ((foolscaplaw13_text.f (⟨#[55]⟩ : ByteArray)).bind fun bt239 => ((foolscaplaw13_fits.f k (⟨#[62, 61, 53]⟩ : ByteArray) bt239.1 bt239.2.1 bt239.2.2.1 bt239.2.2.2.1 bt239.2.2.2.2).bind fun t244 => (if t244 = true then (none) else ((foolscaplaw13_text.f (⟨#[65, 98, 99]⟩ : ByteArray)).bind fun bt245 => ((foolscaplaw13_fits.f k (⟨#[97, 42]⟩ : ByteArray) bt245.1 bt245.2.1 bt245.2.2.1 bt245.2.2.2.1 bt245.2.2.2.2).bind fun t250 => (if t250 = true then ((foolscaplaw13_text.f (⟨#[97, 42]⟩ : ByteArray)).bind fun bt251 => ((foolscaplaw13_fits.f k (⟨#[97, 126, 42]⟩ : ByteArray) bt251.1 bt251.2.1 bt251.2.2.1 bt251.2.2.2.1 bt251.2.2.2.2).bind fun t256 => (if t256 = true then ((foolscaplaw13_text.f (⟨#[97, 98]⟩ : ByteArray)).bind fun bt257 => ((foolscaplaw13_fits.f k (⟨#[97, 126, 42]⟩ : ByteArray) bt257.1 bt257.2.1 bt257.2.2.1 bt257.2.2.2.1 bt257.2.2.2.2).bind fun t262 => (if t262 = true then (none) else ((foolscaplaw13_fits.f k (⟨#[60, 62, 120]⟩ : ByteArray) 0 0 (⟨#[]⟩ : ByteArray) false 0).bind fun t263 => (if t263 = true then ((foolscaplaw13_text.f (⟨#[88]⟩ : ByteArray)).bind fun bt264 => ((foolscaplaw13_fits.f k (⟨#[60, 62, 120]⟩ : ByteArray) bt264.1 bt264.2.1 bt264.2.2.1 bt264.2.2.2.1 bt264.2.2.2.2).bind fun t269 => (if t269 = true then (none) else ((crit_Like.f k (⟨#[63, 98, 42]⟩ : ByteArray) (⟨#[97, 98, 99]⟩ : ByteArray)).bind fun t270 => (if t270 = true then ((crit_Wild.f k (⟨#[97, 63]⟩ : ByteArray)).bind fun t271 => (if t271 = true then ((crit_Wild.f k (⟨#[97, 126, 63]⟩ : ByteArray)).bind fun t272 => (some (!t272))) else (none))) else (none)))))) else (none)))))) else (none)))) else (none))))))) else (none)))) = some r := h
  clear h
  replace H := Option.bind_eq_some_iff.mp H
  obtain ⟨⟨t233, t234, t235, t236, t237⟩, A10, H⟩ := H
  replace H : ((foolscaplaw13_fits.f k (⟨#[62, 61, 53]⟩ : ByteArray) t233 t234 t235 t236 t237).bind fun t238 => (if t238 = true then ((foolscaplaw13_text.f (⟨#[55]⟩ : ByteArray)).bind fun bt239 => ((foolscaplaw13_fits.f k (⟨#[62, 61, 53]⟩ : ByteArray) bt239.1 bt239.2.1 bt239.2.2.1 bt239.2.2.2.1 bt239.2.2.2.2).bind fun t244 => (if t244 = true then (none) else ((foolscaplaw13_text.f (⟨#[65, 98, 99]⟩ : ByteArray)).bind fun bt245 => ((foolscaplaw13_fits.f k (⟨#[97, 42]⟩ : ByteArray) bt245.1 bt245.2.1 bt245.2.2.1 bt245.2.2.2.1 bt245.2.2.2.2).bind fun t250 => (if t250 = true then ((foolscaplaw13_text.f (⟨#[97, 42]⟩ : ByteArray)).bind fun bt251 => ((foolscaplaw13_fits.f k (⟨#[97, 126, 42]⟩ : ByteArray) bt251.1 bt251.2.1 bt251.2.2.1 bt251.2.2.2.1 bt251.2.2.2.2).bind fun t256 => (if t256 = true then ((foolscaplaw13_text.f (⟨#[97, 98]⟩ : ByteArray)).bind fun bt257 => ((foolscaplaw13_fits.f k (⟨#[97, 126, 42]⟩ : ByteArray) bt257.1 bt257.2.1 bt257.2.2.1 bt257.2.2.2.1 bt257.2.2.2.2).bind fun t262 => (if t262 = true then (none) else ((foolscaplaw13_fits.f k (⟨#[60, 62, 120]⟩ : ByteArray) 0 0 (⟨#[]⟩ : ByteArray) false 0).bind fun t263 => (if t263 = true then ((foolscaplaw13_text.f (⟨#[88]⟩ : ByteArray)).bind fun bt264 => ((foolscaplaw13_fits.f k (⟨#[60, 62, 120]⟩ : ByteArray) bt264.1 bt264.2.1 bt264.2.2.1 bt264.2.2.2.1 bt264.2.2.2.2).bind fun t269 => (if t269 = true then (none) else ((crit_Like.f k (⟨#[63, 98, 42]⟩ : ByteArray) (⟨#[97, 98, 99]⟩ : ByteArray)).bind fun t270 => (if t270 = true then ((crit_Wild.f k (⟨#[97, 63]⟩ : ByteArray)).bind fun t271 => (if t271 = true then ((crit_Wild.f k (⟨#[97, 126, 63]⟩ : ByteArray)).bind fun t272 => (some (!t272))) else (none))) else (none)))))) else (none)))))) else (none)))) else (none))))))) else (none))) = some r := H
  have A1 := Aside0.mk A10
  clear A10
  replace H := Option.bind_eq_some_iff.mp H
  obtain ⟨t238, A20, H⟩ := H
  replace H : (if t238 = true then ((foolscaplaw13_text.f (⟨#[55]⟩ : ByteArray)).bind fun bt239 => ((foolscaplaw13_fits.f k (⟨#[62, 61, 53]⟩ : ByteArray) bt239.1 bt239.2.1 bt239.2.2.1 bt239.2.2.2.1 bt239.2.2.2.2).bind fun t244 => (if t244 = true then (none) else ((foolscaplaw13_text.f (⟨#[65, 98, 99]⟩ : ByteArray)).bind fun bt245 => ((foolscaplaw13_fits.f k (⟨#[97, 42]⟩ : ByteArray) bt245.1 bt245.2.1 bt245.2.2.1 bt245.2.2.2.1 bt245.2.2.2.2).bind fun t250 => (if t250 = true then ((foolscaplaw13_text.f (⟨#[97, 42]⟩ : ByteArray)).bind fun bt251 => ((foolscaplaw13_fits.f k (⟨#[97, 126, 42]⟩ : ByteArray) bt251.1 bt251.2.1 bt251.2.2.1 bt251.2.2.2.1 bt251.2.2.2.2).bind fun t256 => (if t256 = true then ((foolscaplaw13_text.f (⟨#[97, 98]⟩ : ByteArray)).bind fun bt257 => ((foolscaplaw13_fits.f k (⟨#[97, 126, 42]⟩ : ByteArray) bt257.1 bt257.2.1 bt257.2.2.1 bt257.2.2.2.1 bt257.2.2.2.2).bind fun t262 => (if t262 = true then (none) else ((foolscaplaw13_fits.f k (⟨#[60, 62, 120]⟩ : ByteArray) 0 0 (⟨#[]⟩ : ByteArray) false 0).bind fun t263 => (if t263 = true then ((foolscaplaw13_text.f (⟨#[88]⟩ : ByteArray)).bind fun bt264 => ((foolscaplaw13_fits.f k (⟨#[60, 62, 120]⟩ : ByteArray) bt264.1 bt264.2.1 bt264.2.2.1 bt264.2.2.2.1 bt264.2.2.2.2).bind fun t269 => (if t269 = true then (none) else ((crit_Like.f k (⟨#[63, 98, 42]⟩ : ByteArray) (⟨#[97, 98, 99]⟩ : ByteArray)).bind fun t270 => (if t270 = true then ((crit_Wild.f k (⟨#[97, 63]⟩ : ByteArray)).bind fun t271 => (if t271 = true then ((crit_Wild.f k (⟨#[97, 126, 63]⟩ : ByteArray)).bind fun t272 => (some (!t272))) else (none))) else (none)))))) else (none)))))) else (none)))) else (none))))))) else (none)) = some r := H
  have A2 := Aside0.mk A20
  clear A20
  by_cases c3 : t238 = true
  · subst c3
    have H1 : ((foolscaplaw13_text.f (⟨#[55]⟩ : ByteArray)).bind fun bt239 => ((foolscaplaw13_fits.f k (⟨#[62, 61, 53]⟩ : ByteArray) bt239.1 bt239.2.1 bt239.2.2.1 bt239.2.2.2.1 bt239.2.2.2.2).bind fun t244 => (if t244 = true then (none) else ((foolscaplaw13_text.f (⟨#[65, 98, 99]⟩ : ByteArray)).bind fun bt245 => ((foolscaplaw13_fits.f k (⟨#[97, 42]⟩ : ByteArray) bt245.1 bt245.2.1 bt245.2.2.1 bt245.2.2.2.1 bt245.2.2.2.2).bind fun t250 => (if t250 = true then ((foolscaplaw13_text.f (⟨#[97, 42]⟩ : ByteArray)).bind fun bt251 => ((foolscaplaw13_fits.f k (⟨#[97, 126, 42]⟩ : ByteArray) bt251.1 bt251.2.1 bt251.2.2.1 bt251.2.2.2.1 bt251.2.2.2.2).bind fun t256 => (if t256 = true then ((foolscaplaw13_text.f (⟨#[97, 98]⟩ : ByteArray)).bind fun bt257 => ((foolscaplaw13_fits.f k (⟨#[97, 126, 42]⟩ : ByteArray) bt257.1 bt257.2.1 bt257.2.2.1 bt257.2.2.2.1 bt257.2.2.2.2).bind fun t262 => (if t262 = true then (none) else ((foolscaplaw13_fits.f k (⟨#[60, 62, 120]⟩ : ByteArray) 0 0 (⟨#[]⟩ : ByteArray) false 0).bind fun t263 => (if t263 = true then ((foolscaplaw13_text.f (⟨#[88]⟩ : ByteArray)).bind fun bt264 => ((foolscaplaw13_fits.f k (⟨#[60, 62, 120]⟩ : ByteArray) bt264.1 bt264.2.1 bt264.2.2.1 bt264.2.2.2.1 bt264.2.2.2.2).bind fun t269 => (if t269 = true then (none) else ((crit_Like.f k (⟨#[63, 98, 42]⟩ : ByteArray) (⟨#[97, 98, 99]⟩ : ByteArray)).bind fun t270 => (if t270 = true then ((crit_Wild.f k (⟨#[97, 63]⟩ : ByteArray)).bind fun t271 => (if t271 = true then ((crit_Wild.f k (⟨#[97, 126, 63]⟩ : ByteArray)).bind fun t272 => (some (!t272))) else (none))) else (none)))))) else (none)))))) else (none)))) else (none))))))) = some r := by rw [if_pos rfl] at H; exact H
    clear H
    have H := H1
    clear H1
    replace H := Option.bind_eq_some_iff.mp H
    obtain ⟨⟨t239, t240, t241, t242, t243⟩, A40, H⟩ := H
    replace H : ((foolscaplaw13_fits.f k (⟨#[62, 61, 53]⟩ : ByteArray) t239 t240 t241 t242 t243).bind fun t244 => (if t244 = true then (none) else ((foolscaplaw13_text.f (⟨#[65, 98, 99]⟩ : ByteArray)).bind fun bt245 => ((foolscaplaw13_fits.f k (⟨#[97, 42]⟩ : ByteArray) bt245.1 bt245.2.1 bt245.2.2.1 bt245.2.2.2.1 bt245.2.2.2.2).bind fun t250 => (if t250 = true then ((foolscaplaw13_text.f (⟨#[97, 42]⟩ : ByteArray)).bind fun bt251 => ((foolscaplaw13_fits.f k (⟨#[97, 126, 42]⟩ : ByteArray) bt251.1 bt251.2.1 bt251.2.2.1 bt251.2.2.2.1 bt251.2.2.2.2).bind fun t256 => (if t256 = true then ((foolscaplaw13_text.f (⟨#[97, 98]⟩ : ByteArray)).bind fun bt257 => ((foolscaplaw13_fits.f k (⟨#[97, 126, 42]⟩ : ByteArray) bt257.1 bt257.2.1 bt257.2.2.1 bt257.2.2.2.1 bt257.2.2.2.2).bind fun t262 => (if t262 = true then (none) else ((foolscaplaw13_fits.f k (⟨#[60, 62, 120]⟩ : ByteArray) 0 0 (⟨#[]⟩ : ByteArray) false 0).bind fun t263 => (if t263 = true then ((foolscaplaw13_text.f (⟨#[88]⟩ : ByteArray)).bind fun bt264 => ((foolscaplaw13_fits.f k (⟨#[60, 62, 120]⟩ : ByteArray) bt264.1 bt264.2.1 bt264.2.2.1 bt264.2.2.2.1 bt264.2.2.2.2).bind fun t269 => (if t269 = true then (none) else ((crit_Like.f k (⟨#[63, 98, 42]⟩ : ByteArray) (⟨#[97, 98, 99]⟩ : ByteArray)).bind fun t270 => (if t270 = true then ((crit_Wild.f k (⟨#[97, 63]⟩ : ByteArray)).bind fun t271 => (if t271 = true then ((crit_Wild.f k (⟨#[97, 126, 63]⟩ : ByteArray)).bind fun t272 => (some (!t272))) else (none))) else (none)))))) else (none)))))) else (none)))) else (none)))))) = some r := H
    have A4 := Aside0.mk A40
    clear A40
    replace H := Option.bind_eq_some_iff.mp H
    obtain ⟨t244, A50, H⟩ := H
    replace H : (if t244 = true then (none) else ((foolscaplaw13_text.f (⟨#[65, 98, 99]⟩ : ByteArray)).bind fun bt245 => ((foolscaplaw13_fits.f k (⟨#[97, 42]⟩ : ByteArray) bt245.1 bt245.2.1 bt245.2.2.1 bt245.2.2.2.1 bt245.2.2.2.2).bind fun t250 => (if t250 = true then ((foolscaplaw13_text.f (⟨#[97, 42]⟩ : ByteArray)).bind fun bt251 => ((foolscaplaw13_fits.f k (⟨#[97, 126, 42]⟩ : ByteArray) bt251.1 bt251.2.1 bt251.2.2.1 bt251.2.2.2.1 bt251.2.2.2.2).bind fun t256 => (if t256 = true then ((foolscaplaw13_text.f (⟨#[97, 98]⟩ : ByteArray)).bind fun bt257 => ((foolscaplaw13_fits.f k (⟨#[97, 126, 42]⟩ : ByteArray) bt257.1 bt257.2.1 bt257.2.2.1 bt257.2.2.2.1 bt257.2.2.2.2).bind fun t262 => (if t262 = true then (none) else ((foolscaplaw13_fits.f k (⟨#[60, 62, 120]⟩ : ByteArray) 0 0 (⟨#[]⟩ : ByteArray) false 0).bind fun t263 => (if t263 = true then ((foolscaplaw13_text.f (⟨#[88]⟩ : ByteArray)).bind fun bt264 => ((foolscaplaw13_fits.f k (⟨#[60, 62, 120]⟩ : ByteArray) bt264.1 bt264.2.1 bt264.2.2.1 bt264.2.2.2.1 bt264.2.2.2.2).bind fun t269 => (if t269 = true then (none) else ((crit_Like.f k (⟨#[63, 98, 42]⟩ : ByteArray) (⟨#[97, 98, 99]⟩ : ByteArray)).bind fun t270 => (if t270 = true then ((crit_Wild.f k (⟨#[97, 63]⟩ : ByteArray)).bind fun t271 => (if t271 = true then ((crit_Wild.f k (⟨#[97, 126, 63]⟩ : ByteArray)).bind fun t272 => (some (!t272))) else (none))) else (none)))))) else (none)))))) else (none)))) else (none))))) = some r := H
    have A5 := Aside0.mk A50
    clear A50
    by_cases c6 : t244 = true
    · subst c6
      have H1 : (none) = some r := by rw [if_pos rfl] at H; exact H
      clear H
      have H := H1
      clear H1
      exact absurd H (by simp)
    · replace c6 := Bool.eq_false_iff.mpr c6
      subst c6
      have H1 : ((foolscaplaw13_text.f (⟨#[65, 98, 99]⟩ : ByteArray)).bind fun bt245 => ((foolscaplaw13_fits.f k (⟨#[97, 42]⟩ : ByteArray) bt245.1 bt245.2.1 bt245.2.2.1 bt245.2.2.2.1 bt245.2.2.2.2).bind fun t250 => (if t250 = true then ((foolscaplaw13_text.f (⟨#[97, 42]⟩ : ByteArray)).bind fun bt251 => ((foolscaplaw13_fits.f k (⟨#[97, 126, 42]⟩ : ByteArray) bt251.1 bt251.2.1 bt251.2.2.1 bt251.2.2.2.1 bt251.2.2.2.2).bind fun t256 => (if t256 = true then ((foolscaplaw13_text.f (⟨#[97, 98]⟩ : ByteArray)).bind fun bt257 => ((foolscaplaw13_fits.f k (⟨#[97, 126, 42]⟩ : ByteArray) bt257.1 bt257.2.1 bt257.2.2.1 bt257.2.2.2.1 bt257.2.2.2.2).bind fun t262 => (if t262 = true then (none) else ((foolscaplaw13_fits.f k (⟨#[60, 62, 120]⟩ : ByteArray) 0 0 (⟨#[]⟩ : ByteArray) false 0).bind fun t263 => (if t263 = true then ((foolscaplaw13_text.f (⟨#[88]⟩ : ByteArray)).bind fun bt264 => ((foolscaplaw13_fits.f k (⟨#[60, 62, 120]⟩ : ByteArray) bt264.1 bt264.2.1 bt264.2.2.1 bt264.2.2.2.1 bt264.2.2.2.2).bind fun t269 => (if t269 = true then (none) else ((crit_Like.f k (⟨#[63, 98, 42]⟩ : ByteArray) (⟨#[97, 98, 99]⟩ : ByteArray)).bind fun t270 => (if t270 = true then ((crit_Wild.f k (⟨#[97, 63]⟩ : ByteArray)).bind fun t271 => (if t271 = true then ((crit_Wild.f k (⟨#[97, 126, 63]⟩ : ByteArray)).bind fun t272 => (some (!t272))) else (none))) else (none)))))) else (none)))))) else (none)))) else (none)))) = some r := by rw [if_neg (show ¬ (false = true) by decide)] at H; exact H
      clear H
      have H := H1
      clear H1
      replace H := Option.bind_eq_some_iff.mp H
      obtain ⟨⟨t245, t246, t247, t248, t249⟩, A70, H⟩ := H
      replace H : ((foolscaplaw13_fits.f k (⟨#[97, 42]⟩ : ByteArray) t245 t246 t247 t248 t249).bind fun t250 => (if t250 = true then ((foolscaplaw13_text.f (⟨#[97, 42]⟩ : ByteArray)).bind fun bt251 => ((foolscaplaw13_fits.f k (⟨#[97, 126, 42]⟩ : ByteArray) bt251.1 bt251.2.1 bt251.2.2.1 bt251.2.2.2.1 bt251.2.2.2.2).bind fun t256 => (if t256 = true then ((foolscaplaw13_text.f (⟨#[97, 98]⟩ : ByteArray)).bind fun bt257 => ((foolscaplaw13_fits.f k (⟨#[97, 126, 42]⟩ : ByteArray) bt257.1 bt257.2.1 bt257.2.2.1 bt257.2.2.2.1 bt257.2.2.2.2).bind fun t262 => (if t262 = true then (none) else ((foolscaplaw13_fits.f k (⟨#[60, 62, 120]⟩ : ByteArray) 0 0 (⟨#[]⟩ : ByteArray) false 0).bind fun t263 => (if t263 = true then ((foolscaplaw13_text.f (⟨#[88]⟩ : ByteArray)).bind fun bt264 => ((foolscaplaw13_fits.f k (⟨#[60, 62, 120]⟩ : ByteArray) bt264.1 bt264.2.1 bt264.2.2.1 bt264.2.2.2.1 bt264.2.2.2.2).bind fun t269 => (if t269 = true then (none) else ((crit_Like.f k (⟨#[63, 98, 42]⟩ : ByteArray) (⟨#[97, 98, 99]⟩ : ByteArray)).bind fun t270 => (if t270 = true then ((crit_Wild.f k (⟨#[97, 63]⟩ : ByteArray)).bind fun t271 => (if t271 = true then ((crit_Wild.f k (⟨#[97, 126, 63]⟩ : ByteArray)).bind fun t272 => (some (!t272))) else (none))) else (none)))))) else (none)))))) else (none)))) else (none))) = some r := H
      have A7 := Aside0.mk A70
      clear A70
      replace H := Option.bind_eq_some_iff.mp H
      obtain ⟨t250, A80, H⟩ := H
      replace H : (if t250 = true then ((foolscaplaw13_text.f (⟨#[97, 42]⟩ : ByteArray)).bind fun bt251 => ((foolscaplaw13_fits.f k (⟨#[97, 126, 42]⟩ : ByteArray) bt251.1 bt251.2.1 bt251.2.2.1 bt251.2.2.2.1 bt251.2.2.2.2).bind fun t256 => (if t256 = true then ((foolscaplaw13_text.f (⟨#[97, 98]⟩ : ByteArray)).bind fun bt257 => ((foolscaplaw13_fits.f k (⟨#[97, 126, 42]⟩ : ByteArray) bt257.1 bt257.2.1 bt257.2.2.1 bt257.2.2.2.1 bt257.2.2.2.2).bind fun t262 => (if t262 = true then (none) else ((foolscaplaw13_fits.f k (⟨#[60, 62, 120]⟩ : ByteArray) 0 0 (⟨#[]⟩ : ByteArray) false 0).bind fun t263 => (if t263 = true then ((foolscaplaw13_text.f (⟨#[88]⟩ : ByteArray)).bind fun bt264 => ((foolscaplaw13_fits.f k (⟨#[60, 62, 120]⟩ : ByteArray) bt264.1 bt264.2.1 bt264.2.2.1 bt264.2.2.2.1 bt264.2.2.2.2).bind fun t269 => (if t269 = true then (none) else ((crit_Like.f k (⟨#[63, 98, 42]⟩ : ByteArray) (⟨#[97, 98, 99]⟩ : ByteArray)).bind fun t270 => (if t270 = true then ((crit_Wild.f k (⟨#[97, 63]⟩ : ByteArray)).bind fun t271 => (if t271 = true then ((crit_Wild.f k (⟨#[97, 126, 63]⟩ : ByteArray)).bind fun t272 => (some (!t272))) else (none))) else (none)))))) else (none)))))) else (none)))) else (none)) = some r := H
      have A8 := Aside0.mk A80
      clear A80
      by_cases c9 : t250 = true
      · subst c9
        have H1 : ((foolscaplaw13_text.f (⟨#[97, 42]⟩ : ByteArray)).bind fun bt251 => ((foolscaplaw13_fits.f k (⟨#[97, 126, 42]⟩ : ByteArray) bt251.1 bt251.2.1 bt251.2.2.1 bt251.2.2.2.1 bt251.2.2.2.2).bind fun t256 => (if t256 = true then ((foolscaplaw13_text.f (⟨#[97, 98]⟩ : ByteArray)).bind fun bt257 => ((foolscaplaw13_fits.f k (⟨#[97, 126, 42]⟩ : ByteArray) bt257.1 bt257.2.1 bt257.2.2.1 bt257.2.2.2.1 bt257.2.2.2.2).bind fun t262 => (if t262 = true then (none) else ((foolscaplaw13_fits.f k (⟨#[60, 62, 120]⟩ : ByteArray) 0 0 (⟨#[]⟩ : ByteArray) false 0).bind fun t263 => (if t263 = true then ((foolscaplaw13_text.f (⟨#[88]⟩ : ByteArray)).bind fun bt264 => ((foolscaplaw13_fits.f k (⟨#[60, 62, 120]⟩ : ByteArray) bt264.1 bt264.2.1 bt264.2.2.1 bt264.2.2.2.1 bt264.2.2.2.2).bind fun t269 => (if t269 = true then (none) else ((crit_Like.f k (⟨#[63, 98, 42]⟩ : ByteArray) (⟨#[97, 98, 99]⟩ : ByteArray)).bind fun t270 => (if t270 = true then ((crit_Wild.f k (⟨#[97, 63]⟩ : ByteArray)).bind fun t271 => (if t271 = true then ((crit_Wild.f k (⟨#[97, 126, 63]⟩ : ByteArray)).bind fun t272 => (some (!t272))) else (none))) else (none)))))) else (none)))))) else (none)))) = some r := by rw [if_pos rfl] at H; exact H
        clear H
        have H := H1
        clear H1
        replace H := Option.bind_eq_some_iff.mp H
        obtain ⟨⟨t251, t252, t253, t254, t255⟩, A100, H⟩ := H
        replace H : ((foolscaplaw13_fits.f k (⟨#[97, 126, 42]⟩ : ByteArray) t251 t252 t253 t254 t255).bind fun t256 => (if t256 = true then ((foolscaplaw13_text.f (⟨#[97, 98]⟩ : ByteArray)).bind fun bt257 => ((foolscaplaw13_fits.f k (⟨#[97, 126, 42]⟩ : ByteArray) bt257.1 bt257.2.1 bt257.2.2.1 bt257.2.2.2.1 bt257.2.2.2.2).bind fun t262 => (if t262 = true then (none) else ((foolscaplaw13_fits.f k (⟨#[60, 62, 120]⟩ : ByteArray) 0 0 (⟨#[]⟩ : ByteArray) false 0).bind fun t263 => (if t263 = true then ((foolscaplaw13_text.f (⟨#[88]⟩ : ByteArray)).bind fun bt264 => ((foolscaplaw13_fits.f k (⟨#[60, 62, 120]⟩ : ByteArray) bt264.1 bt264.2.1 bt264.2.2.1 bt264.2.2.2.1 bt264.2.2.2.2).bind fun t269 => (if t269 = true then (none) else ((crit_Like.f k (⟨#[63, 98, 42]⟩ : ByteArray) (⟨#[97, 98, 99]⟩ : ByteArray)).bind fun t270 => (if t270 = true then ((crit_Wild.f k (⟨#[97, 63]⟩ : ByteArray)).bind fun t271 => (if t271 = true then ((crit_Wild.f k (⟨#[97, 126, 63]⟩ : ByteArray)).bind fun t272 => (some (!t272))) else (none))) else (none)))))) else (none)))))) else (none))) = some r := H
        have A10 := Aside0.mk A100
        clear A100
        replace H := Option.bind_eq_some_iff.mp H
        obtain ⟨t256, A110, H⟩ := H
        replace H : (if t256 = true then ((foolscaplaw13_text.f (⟨#[97, 98]⟩ : ByteArray)).bind fun bt257 => ((foolscaplaw13_fits.f k (⟨#[97, 126, 42]⟩ : ByteArray) bt257.1 bt257.2.1 bt257.2.2.1 bt257.2.2.2.1 bt257.2.2.2.2).bind fun t262 => (if t262 = true then (none) else ((foolscaplaw13_fits.f k (⟨#[60, 62, 120]⟩ : ByteArray) 0 0 (⟨#[]⟩ : ByteArray) false 0).bind fun t263 => (if t263 = true then ((foolscaplaw13_text.f (⟨#[88]⟩ : ByteArray)).bind fun bt264 => ((foolscaplaw13_fits.f k (⟨#[60, 62, 120]⟩ : ByteArray) bt264.1 bt264.2.1 bt264.2.2.1 bt264.2.2.2.1 bt264.2.2.2.2).bind fun t269 => (if t269 = true then (none) else ((crit_Like.f k (⟨#[63, 98, 42]⟩ : ByteArray) (⟨#[97, 98, 99]⟩ : ByteArray)).bind fun t270 => (if t270 = true then ((crit_Wild.f k (⟨#[97, 63]⟩ : ByteArray)).bind fun t271 => (if t271 = true then ((crit_Wild.f k (⟨#[97, 126, 63]⟩ : ByteArray)).bind fun t272 => (some (!t272))) else (none))) else (none)))))) else (none)))))) else (none)) = some r := H
        have A11 := Aside0.mk A110
        clear A110
        by_cases c12 : t256 = true
        · subst c12
          have H1 : ((foolscaplaw13_text.f (⟨#[97, 98]⟩ : ByteArray)).bind fun bt257 => ((foolscaplaw13_fits.f k (⟨#[97, 126, 42]⟩ : ByteArray) bt257.1 bt257.2.1 bt257.2.2.1 bt257.2.2.2.1 bt257.2.2.2.2).bind fun t262 => (if t262 = true then (none) else ((foolscaplaw13_fits.f k (⟨#[60, 62, 120]⟩ : ByteArray) 0 0 (⟨#[]⟩ : ByteArray) false 0).bind fun t263 => (if t263 = true then ((foolscaplaw13_text.f (⟨#[88]⟩ : ByteArray)).bind fun bt264 => ((foolscaplaw13_fits.f k (⟨#[60, 62, 120]⟩ : ByteArray) bt264.1 bt264.2.1 bt264.2.2.1 bt264.2.2.2.1 bt264.2.2.2.2).bind fun t269 => (if t269 = true then (none) else ((crit_Like.f k (⟨#[63, 98, 42]⟩ : ByteArray) (⟨#[97, 98, 99]⟩ : ByteArray)).bind fun t270 => (if t270 = true then ((crit_Wild.f k (⟨#[97, 63]⟩ : ByteArray)).bind fun t271 => (if t271 = true then ((crit_Wild.f k (⟨#[97, 126, 63]⟩ : ByteArray)).bind fun t272 => (some (!t272))) else (none))) else (none)))))) else (none)))))) = some r := by rw [if_pos rfl] at H; exact H
          clear H
          have H := H1
          clear H1
          replace H := Option.bind_eq_some_iff.mp H
          obtain ⟨⟨t257, t258, t259, t260, t261⟩, A130, H⟩ := H
          replace H : ((foolscaplaw13_fits.f k (⟨#[97, 126, 42]⟩ : ByteArray) t257 t258 t259 t260 t261).bind fun t262 => (if t262 = true then (none) else ((foolscaplaw13_fits.f k (⟨#[60, 62, 120]⟩ : ByteArray) 0 0 (⟨#[]⟩ : ByteArray) false 0).bind fun t263 => (if t263 = true then ((foolscaplaw13_text.f (⟨#[88]⟩ : ByteArray)).bind fun bt264 => ((foolscaplaw13_fits.f k (⟨#[60, 62, 120]⟩ : ByteArray) bt264.1 bt264.2.1 bt264.2.2.1 bt264.2.2.2.1 bt264.2.2.2.2).bind fun t269 => (if t269 = true then (none) else ((crit_Like.f k (⟨#[63, 98, 42]⟩ : ByteArray) (⟨#[97, 98, 99]⟩ : ByteArray)).bind fun t270 => (if t270 = true then ((crit_Wild.f k (⟨#[97, 63]⟩ : ByteArray)).bind fun t271 => (if t271 = true then ((crit_Wild.f k (⟨#[97, 126, 63]⟩ : ByteArray)).bind fun t272 => (some (!t272))) else (none))) else (none)))))) else (none))))) = some r := H
          have A13 := Aside0.mk A130
          clear A130
          replace H := Option.bind_eq_some_iff.mp H
          obtain ⟨t262, A140, H⟩ := H
          replace H : (if t262 = true then (none) else ((foolscaplaw13_fits.f k (⟨#[60, 62, 120]⟩ : ByteArray) 0 0 (⟨#[]⟩ : ByteArray) false 0).bind fun t263 => (if t263 = true then ((foolscaplaw13_text.f (⟨#[88]⟩ : ByteArray)).bind fun bt264 => ((foolscaplaw13_fits.f k (⟨#[60, 62, 120]⟩ : ByteArray) bt264.1 bt264.2.1 bt264.2.2.1 bt264.2.2.2.1 bt264.2.2.2.2).bind fun t269 => (if t269 = true then (none) else ((crit_Like.f k (⟨#[63, 98, 42]⟩ : ByteArray) (⟨#[97, 98, 99]⟩ : ByteArray)).bind fun t270 => (if t270 = true then ((crit_Wild.f k (⟨#[97, 63]⟩ : ByteArray)).bind fun t271 => (if t271 = true then ((crit_Wild.f k (⟨#[97, 126, 63]⟩ : ByteArray)).bind fun t272 => (some (!t272))) else (none))) else (none)))))) else (none)))) = some r := H
          have A14 := Aside0.mk A140
          clear A140
          by_cases c15 : t262 = true
          · subst c15
            have H1 : (none) = some r := by rw [if_pos rfl] at H; exact H
            clear H
            have H := H1
            clear H1
            exact absurd H (by simp)
          · replace c15 := Bool.eq_false_iff.mpr c15
            subst c15
            have H1 : ((foolscaplaw13_fits.f k (⟨#[60, 62, 120]⟩ : ByteArray) 0 0 (⟨#[]⟩ : ByteArray) false 0).bind fun t263 => (if t263 = true then ((foolscaplaw13_text.f (⟨#[88]⟩ : ByteArray)).bind fun bt264 => ((foolscaplaw13_fits.f k (⟨#[60, 62, 120]⟩ : ByteArray) bt264.1 bt264.2.1 bt264.2.2.1 bt264.2.2.2.1 bt264.2.2.2.2).bind fun t269 => (if t269 = true then (none) else ((crit_Like.f k (⟨#[63, 98, 42]⟩ : ByteArray) (⟨#[97, 98, 99]⟩ : ByteArray)).bind fun t270 => (if t270 = true then ((crit_Wild.f k (⟨#[97, 63]⟩ : ByteArray)).bind fun t271 => (if t271 = true then ((crit_Wild.f k (⟨#[97, 126, 63]⟩ : ByteArray)).bind fun t272 => (some (!t272))) else (none))) else (none)))))) else (none))) = some r := by rw [if_neg (show ¬ (false = true) by decide)] at H; exact H
            clear H
            have H := H1
            clear H1
            replace H := Option.bind_eq_some_iff.mp H
            obtain ⟨t263, A160, H⟩ := H
            replace H : (if t263 = true then ((foolscaplaw13_text.f (⟨#[88]⟩ : ByteArray)).bind fun bt264 => ((foolscaplaw13_fits.f k (⟨#[60, 62, 120]⟩ : ByteArray) bt264.1 bt264.2.1 bt264.2.2.1 bt264.2.2.2.1 bt264.2.2.2.2).bind fun t269 => (if t269 = true then (none) else ((crit_Like.f k (⟨#[63, 98, 42]⟩ : ByteArray) (⟨#[97, 98, 99]⟩ : ByteArray)).bind fun t270 => (if t270 = true then ((crit_Wild.f k (⟨#[97, 63]⟩ : ByteArray)).bind fun t271 => (if t271 = true then ((crit_Wild.f k (⟨#[97, 126, 63]⟩ : ByteArray)).bind fun t272 => (some (!t272))) else (none))) else (none)))))) else (none)) = some r := H
            have A16 := Aside0.mk A160
            clear A160
            by_cases c17 : t263 = true
            · subst c17
              have H1 : ((foolscaplaw13_text.f (⟨#[88]⟩ : ByteArray)).bind fun bt264 => ((foolscaplaw13_fits.f k (⟨#[60, 62, 120]⟩ : ByteArray) bt264.1 bt264.2.1 bt264.2.2.1 bt264.2.2.2.1 bt264.2.2.2.2).bind fun t269 => (if t269 = true then (none) else ((crit_Like.f k (⟨#[63, 98, 42]⟩ : ByteArray) (⟨#[97, 98, 99]⟩ : ByteArray)).bind fun t270 => (if t270 = true then ((crit_Wild.f k (⟨#[97, 63]⟩ : ByteArray)).bind fun t271 => (if t271 = true then ((crit_Wild.f k (⟨#[97, 126, 63]⟩ : ByteArray)).bind fun t272 => (some (!t272))) else (none))) else (none)))))) = some r := by rw [if_pos rfl] at H; exact H
              clear H
              have H := H1
              clear H1
              replace H := Option.bind_eq_some_iff.mp H
              obtain ⟨⟨t264, t265, t266, t267, t268⟩, A180, H⟩ := H
              replace H : ((foolscaplaw13_fits.f k (⟨#[60, 62, 120]⟩ : ByteArray) t264 t265 t266 t267 t268).bind fun t269 => (if t269 = true then (none) else ((crit_Like.f k (⟨#[63, 98, 42]⟩ : ByteArray) (⟨#[97, 98, 99]⟩ : ByteArray)).bind fun t270 => (if t270 = true then ((crit_Wild.f k (⟨#[97, 63]⟩ : ByteArray)).bind fun t271 => (if t271 = true then ((crit_Wild.f k (⟨#[97, 126, 63]⟩ : ByteArray)).bind fun t272 => (some (!t272))) else (none))) else (none))))) = some r := H
              have A18 := Aside0.mk A180
              clear A180
              replace H := Option.bind_eq_some_iff.mp H
              obtain ⟨t269, A190, H⟩ := H
              replace H : (if t269 = true then (none) else ((crit_Like.f k (⟨#[63, 98, 42]⟩ : ByteArray) (⟨#[97, 98, 99]⟩ : ByteArray)).bind fun t270 => (if t270 = true then ((crit_Wild.f k (⟨#[97, 63]⟩ : ByteArray)).bind fun t271 => (if t271 = true then ((crit_Wild.f k (⟨#[97, 126, 63]⟩ : ByteArray)).bind fun t272 => (some (!t272))) else (none))) else (none)))) = some r := H
              have A19 := Aside0.mk A190
              clear A190
              by_cases c20 : t269 = true
              · subst c20
                have H1 : (none) = some r := by rw [if_pos rfl] at H; exact H
                clear H
                have H := H1
                clear H1
                exact absurd H (by simp)
              · replace c20 := Bool.eq_false_iff.mpr c20
                subst c20
                have H1 : ((crit_Like.f k (⟨#[63, 98, 42]⟩ : ByteArray) (⟨#[97, 98, 99]⟩ : ByteArray)).bind fun t270 => (if t270 = true then ((crit_Wild.f k (⟨#[97, 63]⟩ : ByteArray)).bind fun t271 => (if t271 = true then ((crit_Wild.f k (⟨#[97, 126, 63]⟩ : ByteArray)).bind fun t272 => (some (!t272))) else (none))) else (none))) = some r := by rw [if_neg (show ¬ (false = true) by decide)] at H; exact H
                clear H
                have H := H1
                clear H1
                replace H := Option.bind_eq_some_iff.mp H
                obtain ⟨t270, A210, H⟩ := H
                replace H : (if t270 = true then ((crit_Wild.f k (⟨#[97, 63]⟩ : ByteArray)).bind fun t271 => (if t271 = true then ((crit_Wild.f k (⟨#[97, 126, 63]⟩ : ByteArray)).bind fun t272 => (some (!t272))) else (none))) else (none)) = some r := H
                have A21 := Aside0.mk A210
                clear A210
                by_cases c22 : t270 = true
                · subst c22
                  have H1 : ((crit_Wild.f k (⟨#[97, 63]⟩ : ByteArray)).bind fun t271 => (if t271 = true then ((crit_Wild.f k (⟨#[97, 126, 63]⟩ : ByteArray)).bind fun t272 => (some (!t272))) else (none))) = some r := by rw [if_pos rfl] at H; exact H
                  clear H
                  have H := H1
                  clear H1
                  replace H := Option.bind_eq_some_iff.mp H
                  obtain ⟨t271, A230, H⟩ := H
                  replace H : (if t271 = true then ((crit_Wild.f k (⟨#[97, 126, 63]⟩ : ByteArray)).bind fun t272 => (some (!t272))) else (none)) = some r := H
                  have A23 := Aside0.mk A230
                  clear A230
                  by_cases c24 : t271 = true
                  · subst c24
                    have H1 : ((crit_Wild.f k (⟨#[97, 126, 63]⟩ : ByteArray)).bind fun t272 => (some (!t272))) = some r := by rw [if_pos rfl] at H; exact H
                    clear H
                    have H := H1
                    clear H1
                    replace H := Option.bind_eq_some_iff.mp H
                    obtain ⟨t272, A250, H⟩ := H
                    replace H : (some (!t272)) = some r := H
                    have A25 := Aside0.mk A250
                    clear A250
                    obtain rfl := Option.some.inj H
                    go_enter Tryz.func11, Tryz.ntmps11
                    go_wp2_with (first | ((with_reducible refine gate_callee (f := 25) rfl ?_); refine goesL_ (some 1) rfl rfl Tryz.func25 (by kernel_rfl) rfl #[.int .i64 7000000] rfl (by (try simp only [List.map_toArray, List.map_cons, List.map_nil]); first | done | rfl | (simp only [List.length_drop, List.length_take]; rfl) | (simp only [ByteArray.size_append, Int.natCast_add]; done) | (simp only [ByteArray.size_append, Int.natCast_add]; rfl) | (simp only [Array.mk.injEq, List.cons.injEq, Value.int.injEq, true_and, and_true]; (try simp only [mx, mn, wrap64] at *); omega)) ?_; (with_reducible refine (foolscaplaw13_number.calls 7000000 t233 t234 t235 t236 t237 _ A1.out).mono ?_); rintro e w26 ⟨rfl, hb⟩; refine ⟨_, rfl, ?_⟩; have n0_ := Aside0.mk (below_step (by repeat (first | (with_reducible first | exact HB.out | apply below_alloc | apply pw_below_drewN | apply below_drew1) | exact HB.out)) hb); clear HB; have HB := n0_; clear n0_; (try clear hb); (try clear hb2); (try clear hk); (try clear hi)) | ((with_reducible refine gate_callee (f := 24) rfl ?_); refine goesL_ (some 2) rfl rfl Tryz.func24 (by kernel_rfl) rfl #[.string (⟨#[62, 61, 53]⟩ : ByteArray), .agg #[.int .i64 t233, .int .i64 t234, .string t235, .bool t236, .int .i64 t237]] rfl (by (try simp only [List.map_toArray, List.map_cons, List.map_nil]); first | done | rfl | (simp only [List.length_drop, List.length_take]; rfl) | (simp only [ByteArray.size_append, Int.natCast_add]; done) | (simp only [ByteArray.size_append, Int.natCast_add]; rfl) | (simp only [Array.mk.injEq, List.cons.injEq, Value.int.injEq, true_and, and_true]; (try simp only [mx, mn, wrap64] at *); omega)) ?_; (with_reducible refine (foolscaplaw13_fits.calls k (⟨#[62, 61, 53]⟩ : ByteArray) t233 t234 t235 t236 t237 true _ A2.out).mono ?_); rintro e w27 ⟨rfl, hb⟩; refine ⟨_, rfl, ?_⟩; have n0_ := Aside0.mk (below_step (by repeat (first | (with_reducible first | exact HB.out | apply below_alloc | apply pw_below_drewN | apply below_drew1) | exact HB.out)) hb); clear HB; have HB := n0_; clear n0_; (try clear hb); (try clear hb2); (try clear hk); (try clear hi)) | (go_at_call 26; (with_reducible refine (foolscaplaw13_text.calls (⟨#[55]⟩ : ByteArray) t239 t240 t241 t242 t243 _ A4.out).mono ?_); rintro e w28 ⟨rfl, hb⟩; have n0_ := Aside0.mk (below_step (by repeat (first | (with_reducible first | exact HB.out | apply below_alloc | apply pw_below_drewN | apply below_drew1) | exact HB.out)) hb); clear HB; have HB := n0_; clear n0_; (try clear hb); (try clear hb2); (try clear hk); (try clear hi)) | (go_at_call 24; (with_reducible refine (foolscaplaw13_fits.calls k (⟨#[62, 61, 53]⟩ : ByteArray) t239 t240 t241 t242 t243 false _ A5.out).mono ?_); rintro e w29 ⟨rfl, hb⟩; have n0_ := Aside0.mk (below_step (by repeat (first | (with_reducible first | exact HB.out | apply below_alloc | apply pw_below_drewN | apply below_drew1) | exact HB.out)) hb); clear HB; have HB := n0_; clear n0_; (try clear hb); (try clear hb2); (try clear hk); (try clear hi)) | (go_at_call 26; (with_reducible refine (foolscaplaw13_text.calls (⟨#[65, 98, 99]⟩ : ByteArray) t245 t246 t247 t248 t249 _ A7.out).mono ?_); rintro e w30 ⟨rfl, hb⟩; have n0_ := Aside0.mk (below_step (by repeat (first | (with_reducible first | exact HB.out | apply below_alloc | apply pw_below_drewN | apply below_drew1) | exact HB.out)) hb); clear HB; have HB := n0_; clear n0_; (try clear hb); (try clear hb2); (try clear hk); (try clear hi)) | (go_at_call 24; (with_reducible refine (foolscaplaw13_fits.calls k (⟨#[97, 42]⟩ : ByteArray) t245 t246 t247 t248 t249 true _ A8.out).mono ?_); rintro e w31 ⟨rfl, hb⟩; have n0_ := Aside0.mk (below_step (by repeat (first | (with_reducible first | exact HB.out | apply below_alloc | apply pw_below_drewN | apply below_drew1) | exact HB.out)) hb); clear HB; have HB := n0_; clear n0_; (try clear hb); (try clear hb2); (try clear hk); (try clear hi)) | (go_at_call 26; (with_reducible refine (foolscaplaw13_text.calls (⟨#[97, 42]⟩ : ByteArray) t251 t252 t253 t254 t255 _ A10.out).mono ?_); rintro e w32 ⟨rfl, hb⟩; have n0_ := Aside0.mk (below_step (by repeat (first | (with_reducible first | exact HB.out | apply below_alloc | apply pw_below_drewN | apply below_drew1) | exact HB.out)) hb); clear HB; have HB := n0_; clear n0_; (try clear hb); (try clear hb2); (try clear hk); (try clear hi)) | (go_at_call 24; (with_reducible refine (foolscaplaw13_fits.calls k (⟨#[97, 126, 42]⟩ : ByteArray) t251 t252 t253 t254 t255 true _ A11.out).mono ?_); rintro e w33 ⟨rfl, hb⟩; have n0_ := Aside0.mk (below_step (by repeat (first | (with_reducible first | exact HB.out | apply below_alloc | apply pw_below_drewN | apply below_drew1) | exact HB.out)) hb); clear HB; have HB := n0_; clear n0_; (try clear hb); (try clear hb2); (try clear hk); (try clear hi)) | (go_at_call 26; (with_reducible refine (foolscaplaw13_text.calls (⟨#[97, 98]⟩ : ByteArray) t257 t258 t259 t260 t261 _ A13.out).mono ?_); rintro e w34 ⟨rfl, hb⟩; have n0_ := Aside0.mk (below_step (by repeat (first | (with_reducible first | exact HB.out | apply below_alloc | apply pw_below_drewN | apply below_drew1) | exact HB.out)) hb); clear HB; have HB := n0_; clear n0_; (try clear hb); (try clear hb2); (try clear hk); (try clear hi)) | (go_at_call 24; (with_reducible refine (foolscaplaw13_fits.calls k (⟨#[97, 126, 42]⟩ : ByteArray) t257 t258 t259 t260 t261 false _ A14.out).mono ?_); rintro e w35 ⟨rfl, hb⟩; have n0_ := Aside0.mk (below_step (by repeat (first | (with_reducible first | exact HB.out | apply below_alloc | apply pw_below_drewN | apply below_drew1) | exact HB.out)) hb); clear HB; have HB := n0_; clear n0_; (try clear hb); (try clear hb2); (try clear hk); (try clear hi)) | (go_at_call 24; (with_reducible refine (foolscaplaw13_fits.calls k (⟨#[60, 62, 120]⟩ : ByteArray) 0 0 (⟨#[]⟩ : ByteArray) false 0 true _ A16.out).mono ?_); rintro e w36 ⟨rfl, hb⟩; have n0_ := Aside0.mk (below_step (by repeat (first | (with_reducible first | exact HB.out | apply below_alloc | apply pw_below_drewN | apply below_drew1) | exact HB.out)) hb); clear HB; have HB := n0_; clear n0_; (try clear hb); (try clear hb2); (try clear hk); (try clear hi)) | (go_at_call 26; (with_reducible refine (foolscaplaw13_text.calls (⟨#[88]⟩ : ByteArray) t264 t265 t266 t267 t268 _ A18.out).mono ?_); rintro e w37 ⟨rfl, hb⟩; have n0_ := Aside0.mk (below_step (by repeat (first | (with_reducible first | exact HB.out | apply below_alloc | apply pw_below_drewN | apply below_drew1) | exact HB.out)) hb); clear HB; have HB := n0_; clear n0_; (try clear hb); (try clear hb2); (try clear hk); (try clear hi)) | (go_at_call 24; (with_reducible refine (foolscaplaw13_fits.calls k (⟨#[60, 62, 120]⟩ : ByteArray) t264 t265 t266 t267 t268 false _ A19.out).mono ?_); rintro e w38 ⟨rfl, hb⟩; have n0_ := Aside0.mk (below_step (by repeat (first | (with_reducible first | exact HB.out | apply below_alloc | apply pw_below_drewN | apply below_drew1) | exact HB.out)) hb); clear HB; have HB := n0_; clear n0_; (try clear hb); (try clear hb2); (try clear hk); (try clear hi)) | (go_at_call 27; (with_reducible refine (crit_Like.calls k (⟨#[63, 98, 42]⟩ : ByteArray) (⟨#[97, 98, 99]⟩ : ByteArray) true _ A21.out).mono ?_); rintro e w39 ⟨rfl, hb⟩; have n0_ := Aside0.mk (below_step (by repeat (first | (with_reducible first | exact HB.out | apply below_alloc | apply pw_below_drewN | apply below_drew1) | exact HB.out)) hb); clear HB; have HB := n0_; clear n0_; (try clear hb); (try clear hb2); (try clear hk); (try clear hi)) | (go_at_call 28; (with_reducible refine (crit_Wild.calls k (⟨#[97, 63]⟩ : ByteArray) true _ A23.out).mono ?_); rintro e w40 ⟨rfl, hb⟩; have n0_ := Aside0.mk (below_step (by repeat (first | (with_reducible first | exact HB.out | apply below_alloc | apply pw_below_drewN | apply below_drew1) | exact HB.out)) hb); clear HB; have HB := n0_; clear n0_; (try clear hb); (try clear hb2); (try clear hk); (try clear hi)) | (go_at_call 28; (with_reducible refine (crit_Wild.calls k (⟨#[97, 126, 63]⟩ : ByteArray) t272 _ A25.out).mono ?_); rintro e w41 ⟨rfl, hb⟩; have n0_ := Aside0.mk (below_step (by repeat (first | (with_reducible first | exact HB.out | apply below_alloc | apply pw_below_drewN | apply below_drew1) | exact HB.out)) hb); clear HB; have HB := n0_; clear n0_; (try clear hb); (try clear hb2); (try clear hk); (try clear hi)))
                    go_ret
                    exact ⟨by first | rfl | (simp [errW_none, errW_some] <;> rfl) | (simp [*, errW_none, errW_some] <;> rfl), by repeat (first | (with_reducible first | exact HB.out | apply below_alloc | apply pw_below_drewN | apply below_drew1) | exact HB.out)⟩
                  · replace c24 := Bool.eq_false_iff.mpr c24
                    subst c24
                    have H1 : (none) = some r := by rw [if_neg (show ¬ (false = true) by decide)] at H; exact H
                    clear H
                    have H := H1
                    clear H1
                    exact absurd H (by simp)
                · replace c22 := Bool.eq_false_iff.mpr c22
                  subst c22
                  have H1 : (none) = some r := by rw [if_neg (show ¬ (false = true) by decide)] at H; exact H
                  clear H
                  have H := H1
                  clear H1
                  exact absurd H (by simp)
            · replace c17 := Bool.eq_false_iff.mpr c17
              subst c17
              have H1 : (none) = some r := by rw [if_neg (show ¬ (false = true) by decide)] at H; exact H
              clear H
              have H := H1
              clear H1
              exact absurd H (by simp)
        · replace c12 := Bool.eq_false_iff.mpr c12
          subst c12
          have H1 : (none) = some r := by rw [if_neg (show ¬ (false = true) by decide)] at H; exact H
          clear H
          have H := H1
          clear H1
          exact absurd H (by simp)
      · replace c9 := Bool.eq_false_iff.mpr c9
        subst c9
        have H1 : (none) = some r := by rw [if_neg (show ¬ (false = true) by decide)] at H; exact H
        clear H
        have H := H1
        clear H1
        exact absurd H (by simp)
  · replace c3 := Bool.eq_false_iff.mpr c3
    subst c3
    have H1 : (none) = some r := by rw [if_neg (show ¬ (false = true) by decide)] at H; exact H
    clear H
    have H := H1
    clear H1
    exact absurd H (by simp)
end Go.Proofs.YtngdggmlfoogcaaGreatDoor.Pr
end
section
namespace Go.Proofs.YtngdggmlfoogcaaGreatDoor.Pr
open Go.RowKit Go.Proofs.YtngdggmlfoogcaaGreatDoorW.PrintWords Go.Proofs.YtngdggmlfoogcaaGreatDoorW.PrintLast Go.Proofs.YtngdggmlfoogcaaGreatDoorW.PrintMore
attribute [local go_sem] max2_int min2_int max_two min_two max_three min_three max_four min_four   -- for this text's walks alone
set_option linter.unusedVariables false
set_option linter.unusedSimpArgs false
attribute [local go_sem high] eqA27
def foolscaplaw13_CritReads.f (k : Nat) (a0_0 : Int) (a0_1 : Int) (a0_2 : ByteArray) (a0_3 : Bool) (a0_4 : Int) (a1_0 : ByteArray) (a1_1 : Int) (a1_2 : Int) (a1_3 : ByteArray) (a1_4 : Bool) (a1_5 : Int) : Option (Bool) := (crit_Of.f k a0_0 a0_1 a0_2 a0_3 a0_4).bind fun bt275 => ((foolscapref13_Of.f k a0_0 a0_1 a0_2 a0_3 a0_4).bind fun bt283 => (if (bt275.1.toList == bt283.1.toList && ((bt275.2.1 == bt283.2.1 && (bt275.2.2.1 == bt283.2.2.1 && (bt275.2.2.2.1.toList == bt283.2.2.2.1.toList && (bt275.2.2.2.2.1 == bt283.2.2.2.2.1 && (bt275.2.2.2.2.2.1 == bt283.2.2.2.2.2.1))))))) = true then (if bt275.2.2.2.2.2.2 = bt283.2.2.2.2.2.2 then ((crit_Check.f a1_0 a1_1 a1_2 a1_3 a1_4 a1_5).bind fun t291 => ((foolscapref13_Check.f a1_0 a1_1 a1_2 a1_3 a1_4 a1_5).bind fun t292 => (if t291 = t292 then ((foolscaplaw13_lives.f k).bind fun t293 => (some t293)) else (none)))) else (none)) else (none)))
def foolscaplaw13_CritReads.T3 : Bool × List (List Nat × List Nat) := (true, [([], []), ([], []), ([0, 1], [0, 1]), ([2], [2]), ([3], [3]), ([3], [3]), ([4, 5, 3], [3, 4, 5]), ([3, 6], [3, 6]), ([7, 3], [7]), ([8], [8]), ([9, 8, 8], [8, 9]), ([8], [8]), ([11, 10, 8], [8, 11]), ([10, 12, 8], [8, 10, 12]), ([8, 13], [8, 13]), ([14, 12], [14]), ([15, 15], [15]), ([15, 16], [15, 16]), ([17, 16, 0, 1, 2, 3, 4, 5, 6, 7, 8, 9, 10, 11, 12, 13, 14, 15, 16, 17], [17])])
def foolscaplaw13_CritReads.B3 : List Nat := [0, 0, 3, 7, 15, 15, 63, 127, 255, 511, 1023, 511, 4095, 8191, 16383, 32767, 65535, 131071, 262143]
theorem foolscaplaw13_CritReads.tab3 : rtab .any (opsOf Tryz.f3 3) = foolscaplaw13_CritReads.T3 := by kernel_rfl
theorem foolscaplaw13_CritReads.bits3 : waitsOk foolscaplaw13_CritReads.T3.2 foolscaplaw13_CritReads.B3 = true := by kernel_rfl
set_option maxHeartbeats 8000000 in
set_option maxRecDepth 100000 in
theorem foolscaplaw13_CritReads.calls (k : Nat) (a0_0 : Int) (a0_1 : Int) (a0_2 : ByteArray) (a0_3 : Bool) (a0_4 : Int) (a1_0 : ByteArray) (a1_1 : Int) (a1_2 : Int) (a1_3 : ByteArray) (a1_4 : Bool) (a1_5 : Int) (r : Bool) (w : World) (h : foolscaplaw13_CritReads.f k a0_0 a0_1 a0_2 a0_3 a0_4 a1_0 a1_1 a1_2 a1_3 a1_4 a1_5 = some r) :
    Calls Tryz.prog 3 #[.agg #[.int .i64 a0_0, .int .i64 a0_1, .string a0_2, .bool a0_3, .int .i64 a0_4], .agg #[.string a1_0, .int .i64 a1_1, .int .i64 a1_2, .string a1_3, .bool a1_4, .int .i64 a1_5]] w fun e w' => e = .returned (.bool r) ∧ Below w.heap.size w w' := by
  have hu25 := Tryz.underlying25
  have hu27 := Tryz.underlying27
  have HB := Aside0.mk (Below.refl w.heap.size w)
  have H : ((crit_Of.f k a0_0 a0_1 a0_2 a0_3 a0_4).bind fun bt275 => ((foolscapref13_Of.f k a0_0 a0_1 a0_2 a0_3 a0_4).bind fun bt283 => (if (bt275.1.toList == bt283.1.toList && ((bt275.2.1 == bt283.2.1 && (bt275.2.2.1 == bt283.2.2.1 && (bt275.2.2.2.1.toList == bt283.2.2.2.1.toList && (bt275.2.2.2.2.1 == bt283.2.2.2.2.1 && (bt275.2.2.2.2.2.1 == bt283.2.2.2.2.2.1))))))) = true then (if bt275.2.2.2.2.2.2 = bt283.2.2.2.2.2.2 then ((crit_Check.f a1_0 a1_1 a1_2 a1_3 a1_4 a1_5).bind fun t291 => ((foolscapref13_Check.f a1_0 a1_1 a1_2 a1_3 a1_4 a1_5).bind fun t292 => (if t291 = t292 then ((foolscaplaw13_lives.f k).bind fun t293 => (some t293)) else (none)))) else (none)) else (none)))) = some r := h
  clear h
  replace H := Option.bind_eq_some_iff.mp H
  obtain ⟨⟨t275, t276, t277, t278, t279, t280, t281⟩, A30, H⟩ := H
  replace H : ((foolscapref13_Of.f k a0_0 a0_1 a0_2 a0_3 a0_4).bind fun bt283 => (if (t275.toList == bt283.1.toList && ((t276 == bt283.2.1 && (t277 == bt283.2.2.1 && (t278.toList == bt283.2.2.2.1.toList && (t279 == bt283.2.2.2.2.1 && (t280 == bt283.2.2.2.2.2.1))))))) = true then (if t281 = bt283.2.2.2.2.2.2 then ((crit_Check.f a1_0 a1_1 a1_2 a1_3 a1_4 a1_5).bind fun t291 => ((foolscapref13_Check.f a1_0 a1_1 a1_2 a1_3 a1_4 a1_5).bind fun t292 => (if t291 = t292 then ((foolscaplaw13_lives.f k).bind fun t293 => (some t293)) else (none)))) else (none)) else (none))) = some r := H
  have A3 := Aside0.mk A30
  clear A30
  replace H := Option.bind_eq_some_iff.mp H
  obtain ⟨⟨t283, t284, t285, t286, t287, t288, t289⟩, A40, H⟩ := H
  replace H : (if (t275.toList == t283.toList && ((t276 == t284 && (t277 == t285 && (t278.toList == t286.toList && (t279 == t287 && (t280 == t288))))))) = true then (if t281 = t289 then ((crit_Check.f a1_0 a1_1 a1_2 a1_3 a1_4 a1_5).bind fun t291 => ((foolscapref13_Check.f a1_0 a1_1 a1_2 a1_3 a1_4 a1_5).bind fun t292 => (if t291 = t292 then ((foolscaplaw13_lives.f k).bind fun t293 => (some t293)) else (none)))) else (none)) else (none)) = some r := H
  have A4 := Aside0.mk A40
  clear A40
  by_cases c5 : (t275.toList == t283.toList && ((t276 == t284 && (t277 == t285 && (t278.toList == t286.toList && (t279 == t287 && (t280 == t288))))))) = true
  · rw [if_pos c5] at H
    have c5b0 : (t275.toList == t283.toList && ((t276 == t284 && (t277 == t285 && (t278.toList == t286.toList && (t279 == t287 && (t280 == t288))))))) = true := c5
    (try (have c5b1 : decide (t275.toList = t283.toList && ((t276 == t284 && (t277 == t285 && (t278.toList == t286.toList && (t279 == t287 && (t280 == t288))))))) = true := by simpa using c5))
    (try (have c5b2 : (t275.toList == t283.toList && ((t276 == t284 && (t277 == t285 && (t278.toList == t286.toList && (t279 == t287 && (t280 == t288))))))) = true := by simpa using c5))
    clear c5
    by_cases c6 : t281 = t289
    · rw [if_pos c6] at H
      have c6b0 : (t281 == t289) = true := beq_iff_eq.mpr c6
      have c6b1 : (t281 != t289) = false := bne_eq_false_iff_eq.mpr c6
      clear c6
      replace H := Option.bind_eq_some_iff.mp H
      obtain ⟨t291, A70, H⟩ := H
      replace H : ((foolscapref13_Check.f a1_0 a1_1 a1_2 a1_3 a1_4 a1_5).bind fun t292 => (if t291 = t292 then ((foolscaplaw13_lives.f k).bind fun t293 => (some t293)) else (none))) = some r := H
      have A7 := Aside0.mk A70
      clear A70
      replace H := Option.bind_eq_some_iff.mp H
      obtain ⟨t292, A80, H⟩ := H
      replace H : (if t291 = t292 then ((foolscaplaw13_lives.f k).bind fun t293 => (some t293)) else (none)) = some r := H
      have A8 := Aside0.mk A80
      clear A80
      by_cases c9 : t291 = t292
      · rw [if_pos c9] at H
        have c9b0 : (t291 == t292) = true := beq_iff_eq.mpr c9
        have c9b1 : (t291 != t292) = false := bne_eq_false_iff_eq.mpr c9
        clear c9
        replace H := Option.bind_eq_some_iff.mp H
        obtain ⟨t293, A100, H⟩ := H
        replace H : (some t293) = some r := H
        have A10 := Aside0.mk A100
        clear A100
        obtain rfl := Option.some.inj H
        go_enter Tryz.func3, Tryz.ntmps3
        try go_wp2_with (first | ((with_reducible refine gate_dst (N := 2) rfl ?_); refine box_event ?hg (N := 2) ?hd (cs := #[.int .i64 a0_0, .int .i64 a0_1, .string a0_2, .bool a0_3, .int .i64 a0_4]) (t := 25) ?hr ?_; (case hd => rfl); (case hg => rfl); (case hr => first | (go_simp; done) | (go_simp; rfl)); intro gb273 hg w11 hbox hb; have n0_ := Aside0.mk (below_step (by repeat (first | (with_reducible first | exact HB.out | apply below_alloc | apply pw_below_drewN | apply below_drew1) | exact HB.out)) hb); have n1_ := Aside0.mk (hbox); have n2_ := Aside0.mk ((by rw [hg]; exact (below_size (by repeat (first | (with_reducible first | exact HB.out | apply below_alloc | apply pw_below_drewN | apply below_drew1) | exact HB.out))) : w.heap.size ≤ gb273)); have n3_ := Aside0.mk ((by rw [hg]; exact (below_size (by repeat (first | (with_reducible first | exact HB.out | apply below_alloc | apply pw_below_drewN | apply below_drew1) | exact HB.out))) : w.heap.size ≤ gb273)); clear HB; have HB := n0_; have BK273 := n1_; have GW273 := n2_; have GE273 := n3_; clear n0_ n1_ n2_ n3_; clear hb hbox hg) | ((with_reducible refine gate_dst (N := 3) rfl ?_); refine box_event ?hg (N := 3) ?hd (cs := #[.string a1_0, .int .i64 a1_1, .int .i64 a1_2, .string a1_3, .bool a1_4, .int .i64 a1_5]) (t := 27) ?hr ?_; (case hd => rfl); (case hg => rfl); (case hr => first | (go_simp; done) | (go_simp; rfl)); intro gb274 hg w12 hbox hb; have n0_ := Aside0.mk (blk_below (g := gb273) (o := .cells #[.int .i64 a0_0, .int .i64 a0_1, .string a0_2, .bool a0_3, .int .i64 a0_4] 25 (0, 0)) (by (with_reducible repeat (first | refine blk_drewN ?_ _ | refine blk_drew ?_ | refine blk_alloc ?_ _)); exact BK273.out) hb); have n1_ := Aside0.mk (below_step (by repeat (first | (with_reducible first | exact HB.out | apply below_alloc | apply pw_below_drewN | apply below_drew1 | refine below_set ?_ GE273.out) | exact HB.out)) hb); have n2_ := Aside0.mk (hbox); have n3_ := Aside0.mk ((by rw [hg]; exact (below_size (by repeat (first | (with_reducible first | exact HB.out | apply below_alloc | apply pw_below_drewN | apply below_drew1 | refine below_set ?_ GE273.out) | exact HB.out))) : w.heap.size ≤ gb274)); have n4_ := Aside0.mk ((by rw [hg]; exact (below_size (by repeat (first | (with_reducible first | exact HB.out | apply below_alloc | apply pw_below_drewN | apply below_drew1 | refine below_set ?_ GE273.out) | exact HB.out))) : w.heap.size ≤ gb274)); have n5_ := Aside0.mk ((by rw [hg]; exact Nat.ne_of_lt (blk_lt (g := gb273) (o := .cells #[.int .i64 a0_0, .int .i64 a0_1, .string a0_2, .bool a0_3, .int .i64 a0_4] 25 (0, 0)) (by (with_reducible repeat (first | refine blk_drewN ?_ _ | refine blk_drew ?_ | refine blk_alloc ?_ _)); exact BK273.out)) : gb273 ≠ gb274)); have n6_ := Aside0.mk ((by rw [hg]; exact Nat.ne_of_gt (blk_lt (g := gb273) (o := .cells #[.int .i64 a0_0, .int .i64 a0_1, .string a0_2, .bool a0_3, .int .i64 a0_4] 25 (0, 0)) (by (with_reducible repeat (first | refine blk_drewN ?_ _ | refine blk_drew ?_ | refine blk_alloc ?_ _)); exact BK273.out)) : gb274 ≠ gb273)); clear BK273; clear HB; have BK273 := n0_; have HB := n1_; have BK274 := n2_; have GW274 := n3_; have GE274 := n4_; have NB273_274 := n5_; have NB274_273 := n6_; clear n0_ n1_ n2_ n3_ n4_ n5_ n6_; clear hb hbox hg; have hnb13 := NB273_274.out; have hnc13 := NB274_273.out; have hcz14_0 : w12.cell? ⟨gb273, 0, none⟩ = some (.int .i64 a0_0) := (blk_cell BK273.out 0).trans rfl; have hcz14_1 : w12.cell? ⟨gb273, 1, none⟩ = some (.int .i64 a0_1) := (blk_cell BK273.out 1).trans rfl; have hcz14_2 : w12.cell? ⟨gb273, 2, none⟩ = some (.string a0_2) := (blk_cell BK273.out 2).trans rfl; have hcz14_3 : w12.cell? ⟨gb273, 3, none⟩ = some (.bool a0_3) := (blk_cell BK273.out 3).trans rfl; have hcz14_4 : w12.cell? ⟨gb273, 4, none⟩ = some (.int .i64 a0_4) := (blk_cell BK273.out 4).trans rfl; have hfz14_0 := blk_frozen BK273.out 0; have hfz14_1 := blk_frozen BK273.out 1; have hfz14_2 := blk_frozen BK273.out 2; have hfz14_3 := blk_frozen BK273.out 3; have hfz14_4 := blk_frozen BK273.out 4) | ((with_reducible refine gate_callee (f := 7) rfl ?_); refine goesL_ (some 11) rfl rfl Tryz.func7 (by kernel_rfl) rfl #[.agg #[.int .i64 a0_0, .int .i64 a0_1, .string a0_2, .bool a0_3, .int .i64 a0_4]] rfl (by (try simp only [List.map_toArray, List.map_cons, List.map_nil]); first | done | rfl | (simp only [List.length_drop, List.length_take]; rfl) | (simp only [ByteArray.size_append, Int.natCast_add]; done) | (simp only [ByteArray.size_append, Int.natCast_add]; rfl) | (simp only [Array.mk.injEq, List.cons.injEq, Value.int.injEq, true_and, and_true]; (try simp only [mx, mn, wrap64] at *); omega)) ?_; (with_reducible refine (crit_Of.calls k a0_0 a0_1 a0_2 a0_3 a0_4 t275 t276 t277 t278 t279 t280 t281 _ A3.out).mono ?_); rintro e w15 ⟨rfl, hb⟩; refine ⟨_, rfl, ?_⟩; have n0_ := Aside0.mk (blk_below (g := gb273) (o := .cells #[.int .i64 a0_0, .int .i64 a0_1, .string a0_2, .bool a0_3, .int .i64 a0_4] 25 (0, 0)) (by (with_reducible repeat (first | refine blk_drewN ?_ _ | refine blk_drew ?_ | refine blk_alloc ?_ _)); exact BK273.out) hb); have n1_ := Aside0.mk (blk_below (g := gb274) (o := .cells #[.string a1_0, .int .i64 a1_1, .int .i64 a1_2, .string a1_3, .bool a1_4, .int .i64 a1_5] 27 (0, 0)) (by (with_reducible repeat (first | refine blk_drewN ?_ _ | refine blk_drew ?_ | refine blk_alloc ?_ _)); exact BK274.out) hb); have n2_ := Aside0.mk (below_step (by repeat (first | (with_reducible first | exact HB.out | apply below_alloc | apply pw_below_drewN | apply below_drew1 | refine below_set ?_ GE273.out | refine below_set ?_ GE274.out) | exact HB.out)) hb); clear BK273; clear BK274; clear HB; have BK273 := n0_; have BK274 := n1_; have HB := n2_; clear n0_ n1_ n2_; (try clear hb); (try clear hb2); (try clear hk); (try clear hi)) | ((with_reducible refine gate_dst (N := 5) rfl ?_); refine box_event ?hg (N := 5) ?hd (cs := #[.string (⟨#[]⟩ : ByteArray), .int .i64 0, .int .i64 0, .string (⟨#[]⟩ : ByteArray), .bool false, .int .i64 0]) (t := 27) ?hr ?_; (case hd => rfl); (case hg => rfl); (case hr => first | (go_simp; done) | (go_simp; rfl)); intro gb282 hg w16 hbox hb; have n0_ := Aside0.mk (blk_below (g := gb273) (o := .cells #[.int .i64 a0_0, .int .i64 a0_1, .string a0_2, .bool a0_3, .int .i64 a0_4] 25 (0, 0)) (by (with_reducible repeat (first | refine blk_drewN ?_ _ | refine blk_drew ?_ | refine blk_alloc ?_ _)); exact BK273.out) hb); have n1_ := Aside0.mk (blk_below (g := gb274) (o := .cells #[.string a1_0, .int .i64 a1_1, .int .i64 a1_2, .string a1_3, .bool a1_4, .int .i64 a1_5] 27 (0, 0)) (by (with_reducible repeat (first | refine blk_drewN ?_ _ | refine blk_drew ?_ | refine blk_alloc ?_ _)); exact BK274.out) hb); have n2_ := Aside0.mk (below_step (by repeat (first | (with_reducible first | exact HB.out | apply below_alloc | apply pw_below_drewN | apply below_drew1 | refine below_set ?_ GE273.out | refine below_set ?_ GE274.out) | exact HB.out)) hb); have n3_ := Aside0.mk (hbox); have n4_ := Aside0.mk ((by rw [hg]; exact (below_size (by repeat (first | (with_reducible first | exact HB.out | apply below_alloc | apply pw_below_drewN | apply below_drew1 | refine below_set ?_ GE273.out | refine below_set ?_ GE274.out) | exact HB.out))) : w.heap.size ≤ gb282)); have n5_ := Aside0.mk ((by rw [hg]; exact (below_size (by repeat (first | (with_reducible first | exact HB.out | apply below_alloc | apply pw_below_drewN | apply below_drew1 | refine below_set ?_ GE273.out | refine below_set ?_ GE274.out) | exact HB.out))) : w.heap.size ≤ gb282)); have n6_ := Aside0.mk ((by rw [hg]; exact Nat.ne_of_lt (blk_lt (g := gb273) (o := .cells #[.int .i64 a0_0, .int .i64 a0_1, .string a0_2, .bool a0_3, .int .i64 a0_4] 25 (0, 0)) (by (with_reducible repeat (first | refine blk_drewN ?_ _ | refine blk_drew ?_ | refine blk_alloc ?_ _)); exact BK273.out)) : gb273 ≠ gb282)); have n7_ := Aside0.mk ((by rw [hg]; exact Nat.ne_of_gt (blk_lt (g := gb273) (o := .cells #[.int .i64 a0_0, .int .i64 a0_1, .string a0_2, .bool a0_3, .int .i64 a0_4] 25 (0, 0)) (by (with_reducible repeat (first | refine blk_drewN ?_ _ | refine blk_drew ?_ | refine blk_alloc ?_ _)); exact BK273.out)) : gb282 ≠ gb273)); have n8_ := Aside0.mk ((by rw [hg]; exact Nat.ne_of_lt (blk_lt (g := gb274) (o := .cells #[.string a1_0, .int .i64 a1_1, .int .i64 a1_2, .string a1_3, .bool a1_4, .int .i64 a1_5] 27 (0, 0)) (by (with_reducible repeat (first | refine blk_drewN ?_ _ | refine blk_drew ?_ | refine blk_alloc ?_ _)); exact BK274.out)) : gb274 ≠ gb282)); have n9_ := Aside0.mk ((by rw [hg]; exact Nat.ne_of_gt (blk_lt (g := gb274) (o := .cells #[.string a1_0, .int .i64 a1_1, .int .i64 a1_2, .string a1_3, .bool a1_4, .int .i64 a1_5] 27 (0, 0)) (by (with_reducible repeat (first | refine blk_drewN ?_ _ | refine blk_drew ?_ | refine blk_alloc ?_ _)); exact BK274.out)) : gb282 ≠ gb274)); clear BK273; clear BK274; clear HB; have BK273 := n0_; have BK274 := n1_; have HB := n2_; have BK282 := n3_; have GW282 := n4_; have GE282 := n5_; have NB273_282 := n6_; have NB282_273 := n7_; have NB274_282 := n8_; have NB282_274 := n9_; clear n0_ n1_ n2_ n3_ n4_ n5_ n6_ n7_ n8_ n9_; clear hb hbox hg; have hnb17 := NB282_273.out; have hnc17 := NB273_282.out; have hnb18 := NB282_274.out; have hnc18 := NB274_282.out; have hcz19_0 : w16.cell? ⟨gb282, 0, none⟩ = some (.string (⟨#[]⟩ : ByteArray)) := (blk_cell BK282.out 0).trans rfl; have hcz19_1 : w16.cell? ⟨gb282, 1, none⟩ = some (.int .i64 0) := (blk_cell BK282.out 1).trans rfl; have hcz19_2 : w16.cell? ⟨gb282, 2, none⟩ = some (.int .i64 0) := (blk_cell BK282.out 2).trans rfl; have hcz19_3 : w16.cell? ⟨gb282, 3, none⟩ = some (.string (⟨#[]⟩ : ByteArray)) := (blk_cell BK282.out 3).trans rfl; have hcz19_4 : w16.cell? ⟨gb282, 4, none⟩ = some (.bool false) := (blk_cell BK282.out 4).trans rfl; have hcz19_5 : w16.cell? ⟨gb282, 5, none⟩ = some (.int .i64 0) := (blk_cell BK282.out 5).trans rfl; have hfz19_0 := blk_frozen BK282.out 0; have hfz19_1 := blk_frozen BK282.out 1; have hfz19_2 := blk_frozen BK282.out 2; have hfz19_3 := blk_frozen BK282.out 3; have hfz19_4 := blk_frozen BK282.out 4; have hfz19_5 := blk_frozen BK282.out 5; have hcz20_0 : w16.cell? ⟨gb273, 0, none⟩ = some (.int .i64 a0_0) := (blk_cell BK273.out 0).trans rfl; have hcz20_1 : w16.cell? ⟨gb273, 1, none⟩ = some (.int .i64 a0_1) := (blk_cell BK273.out 1).trans rfl; have hcz20_2 : w16.cell? ⟨gb273, 2, none⟩ = some (.string a0_2) := (blk_cell BK273.out 2).trans rfl; have hcz20_3 : w16.cell? ⟨gb273, 3, none⟩ = some (.bool a0_3) := (blk_cell BK273.out 3).trans rfl; have hcz20_4 : w16.cell? ⟨gb273, 4, none⟩ = some (.int .i64 a0_4) := (blk_cell BK273.out 4).trans rfl; have hfz20_0 := blk_frozen BK273.out 0; have hfz20_1 := blk_frozen BK273.out 1; have hfz20_2 := blk_frozen BK273.out 2; have hfz20_3 := blk_frozen BK273.out 3; have hfz20_4 := blk_frozen BK273.out 4) | ((with_reducible refine gate_callee (f := 8) rfl ?_); refine goesL_ (some 16) rfl rfl Tryz.func8 (by kernel_rfl) rfl #[.agg #[.int .i64 a0_0, .int .i64 a0_1, .string a0_2, .bool a0_3, .int .i64 a0_4]] rfl (by (try simp only [List.map_toArray, List.map_cons, List.map_nil]); first | done | rfl | (simp only [List.length_drop, List.length_take]; rfl) | (simp only [ByteArray.size_append, Int.natCast_add]; done) | (simp only [ByteArray.size_append, Int.natCast_add]; rfl) | (simp only [Array.mk.injEq, List.cons.injEq, Value.int.injEq, true_and, and_true]; (try simp only [mx, mn, wrap64] at *); omega)) ?_; (with_reducible refine (foolscapref13_Of.calls k a0_0 a0_1 a0_2 a0_3 a0_4 t283 t284 t285 t286 t287 t288 t289 _ A4.out).mono ?_); rintro e w21 ⟨rfl, hb⟩; refine ⟨_, rfl, ?_⟩; have n0_ := Aside0.mk (blk_below (g := gb273) (o := .cells #[.int .i64 a0_0, .int .i64 a0_1, .string a0_2, .bool a0_3, .int .i64 a0_4] 25 (0, 0)) (by (with_reducible repeat (first | refine blk_drewN ?_ _ | refine blk_drew ?_ | refine blk_alloc ?_ _)); refine blk_far ?_ NB273_282.out _; (with_reducible repeat (first | refine blk_drewN ?_ _ | refine blk_drew ?_ | refine blk_alloc ?_ _)); refine blk_far ?_ NB273_282.out _; (with_reducible repeat (first | refine blk_drewN ?_ _ | refine blk_drew ?_ | refine blk_alloc ?_ _)); refine blk_far ?_ NB273_282.out _; (with_reducible repeat (first | refine blk_drewN ?_ _ | refine blk_drew ?_ | refine blk_alloc ?_ _)); refine blk_far ?_ NB273_282.out _; (with_reducible repeat (first | refine blk_drewN ?_ _ | refine blk_drew ?_ | refine blk_alloc ?_ _)); refine blk_far ?_ NB273_282.out _; (with_reducible repeat (first | refine blk_drewN ?_ _ | refine blk_drew ?_ | refine blk_alloc ?_ _)); refine blk_far ?_ NB273_282.out _; (with_reducible repeat (first | refine blk_drewN ?_ _ | refine blk_drew ?_ | refine blk_alloc ?_ _)); exact BK273.out) hb); have n1_ := Aside0.mk (blk_below (g := gb274) (o := .cells #[.string a1_0, .int .i64 a1_1, .int .i64 a1_2, .string a1_3, .bool a1_4, .int .i64 a1_5] 27 (0, 0)) (by (with_reducible repeat (first | refine blk_drewN ?_ _ | refine blk_drew ?_ | refine blk_alloc ?_ _)); refine blk_far ?_ NB274_282.out _; (with_reducible repeat (first | refine blk_drewN ?_ _ | refine blk_drew ?_ | refine blk_alloc ?_ _)); refine blk_far ?_ NB274_282.out _; (with_reducible repeat (first | refine blk_drewN ?_ _ | refine blk_drew ?_ | refine blk_alloc ?_ _)); refine blk_far ?_ NB274_282.out _; (with_reducible repeat (first | refine blk_drewN ?_ _ | refine blk_drew ?_ | refine blk_alloc ?_ _)); refine blk_far ?_ NB274_282.out _; (with_reducible repeat (first | refine blk_drewN ?_ _ | refine blk_drew ?_ | refine blk_alloc ?_ _)); refine blk_far ?_ NB274_282.out _; (with_reducible repeat (first | refine blk_drewN ?_ _ | refine blk_drew ?_ | refine blk_alloc ?_ _)); refine blk_far ?_ NB274_282.out _; (with_reducible repeat (first | refine blk_drewN ?_ _ | refine blk_drew ?_ | refine blk_alloc ?_ _)); exact BK274.out) hb); have n2_ := Aside0.mk (blk_below (g := gb282) (o := .cells #[.string t275, .int .i64 t276, .int .i64 t277, .string t278, .bool t279, .int .i64 t280] 27 (0, 0)) (by (with_reducible repeat (first | refine blk_drewN ?_ _ | refine blk_drew ?_ | refine blk_alloc ?_ _)); refine blk_put (cs := #[.string t275, .int .i64 t276, .int .i64 t277, .string t278, .bool t279, .int .i64 0]) ?_ 5 _ rfl; (with_reducible repeat (first | refine blk_drewN ?_ _ | refine blk_drew ?_ | refine blk_alloc ?_ _)); refine blk_put (cs := #[.string t275, .int .i64 t276, .int .i64 t277, .string t278, .bool false, .int .i64 0]) ?_ 4 _ rfl; (with_reducible repeat (first | refine blk_drewN ?_ _ | refine blk_drew ?_ | refine blk_alloc ?_ _)); refine blk_put (cs := #[.string t275, .int .i64 t276, .int .i64 t277, .string (⟨#[]⟩ : ByteArray), .bool false, .int .i64 0]) ?_ 3 _ rfl; (with_reducible repeat (first | refine blk_drewN ?_ _ | refine blk_drew ?_ | refine blk_alloc ?_ _)); refine blk_put (cs := #[.string t275, .int .i64 t276, .int .i64 0, .string (⟨#[]⟩ : ByteArray), .bool false, .int .i64 0]) ?_ 2 _ rfl; (with_reducible repeat (first | refine blk_drewN ?_ _ | refine blk_drew ?_ | refine blk_alloc ?_ _)); refine blk_put (cs := #[.string t275, .int .i64 0, .int .i64 0, .string (⟨#[]⟩ : ByteArray), .bool false, .int .i64 0]) ?_ 1 _ rfl; (with_reducible repeat (first | refine blk_drewN ?_ _ | refine blk_drew ?_ | refine blk_alloc ?_ _)); refine blk_put (cs := #[.string (⟨#[]⟩ : ByteArray), .int .i64 0, .int .i64 0, .string (⟨#[]⟩ : ByteArray), .bool false, .int .i64 0]) ?_ 0 _ rfl; (with_reducible repeat (first | refine blk_drewN ?_ _ | refine blk_drew ?_ | refine blk_alloc ?_ _)); exact BK282.out) hb); have n3_ := Aside0.mk (below_step (by repeat (first | (with_reducible first | exact HB.out | apply below_alloc | apply pw_below_drewN | apply below_drew1 | refine below_set ?_ GE273.out | refine below_set ?_ GE274.out | refine below_set ?_ GE282.out) | exact HB.out)) hb); clear BK273; clear BK274; clear BK282; clear HB; have BK273 := n0_; have BK274 := n1_; have BK282 := n2_; have HB := n3_; clear n0_ n1_ n2_ n3_; (try clear hb); (try clear hb2); (try clear hk); (try clear hi)) | ((with_reducible refine gate_dst (N := 7) rfl ?_); refine box_event ?hg (N := 7) ?hd (cs := #[.string (⟨#[]⟩ : ByteArray), .int .i64 0, .int .i64 0, .string (⟨#[]⟩ : ByteArray), .bool false, .int .i64 0]) (t := 27) ?hr ?_; (case hd => rfl); (case hg => rfl); (case hr => first | (go_simp; done) | (go_simp; rfl)); intro gb290 hg w22 hbox hb; have n0_ := Aside0.mk (blk_below (g := gb273) (o := .cells #[.int .i64 a0_0, .int .i64 a0_1, .string a0_2, .bool a0_3, .int .i64 a0_4] 25 (0, 0)) (by (with_reducible repeat (first | refine blk_drewN ?_ _ | refine blk_drew ?_ | refine blk_alloc ?_ _)); exact BK273.out) hb); have n1_ := Aside0.mk (blk_below (g := gb274) (o := .cells #[.string a1_0, .int .i64 a1_1, .int .i64 a1_2, .string a1_3, .bool a1_4, .int .i64 a1_5] 27 (0, 0)) (by (with_reducible repeat (first | refine blk_drewN ?_ _ | refine blk_drew ?_ | refine blk_alloc ?_ _)); exact BK274.out) hb); have n2_ := Aside0.mk (blk_below (g := gb282) (o := .cells #[.string t275, .int .i64 t276, .int .i64 t277, .string t278, .bool t279, .int .i64 t280] 27 (0, 0)) (by (with_reducible repeat (first | refine blk_drewN ?_ _ | refine blk_drew ?_ | refine blk_alloc ?_ _)); exact BK282.out) hb); have n3_ := Aside0.mk (below_step (by repeat (first | (with_reducible first | exact HB.out | apply below_alloc | apply pw_below_drewN | apply below_drew1 | refine below_set ?_ GE273.out | refine below_set ?_ GE274.out | refine below_set ?_ GE282.out) | exact HB.out)) hb); have n4_ := Aside0.mk (hbox); have n5_ := Aside0.mk ((by rw [hg]; exact (below_size (by repeat (first | (with_reducible first | exact HB.out | apply below_alloc | apply pw_below_drewN | apply below_drew1 | refine below_set ?_ GE273.out | refine below_set ?_ GE274.out | refine below_set ?_ GE282.out) | exact HB.out))) : w.heap.size ≤ gb290)); have n6_ := Aside0.mk ((by rw [hg]; exact (below_size (by repeat (first | (with_reducible first | exact HB.out | apply below_alloc | apply pw_below_drewN | apply below_drew1 | refine below_set ?_ GE273.out | refine below_set ?_ GE274.out | refine below_set ?_ GE282.out) | exact HB.out))) : w.heap.size ≤ gb290)); have n7_ := Aside0.mk ((by rw [hg]; exact Nat.ne_of_lt (blk_lt (g := gb273) (o := .cells #[.int .i64 a0_0, .int .i64 a0_1, .string a0_2, .bool a0_3, .int .i64 a0_4] 25 (0, 0)) (by (with_reducible repeat (first | refine blk_drewN ?_ _ | refine blk_drew ?_ | refine blk_alloc ?_ _)); exact BK273.out)) : gb273 ≠ gb290)); have n8_ := Aside0.mk ((by rw [hg]; exact Nat.ne_of_gt (blk_lt (g := gb273) (o := .cells #[.int .i64 a0_0, .int .i64 a0_1, .string a0_2, .bool a0_3, .int .i64 a0_4] 25 (0, 0)) (by (with_reducible repeat (first | refine blk_drewN ?_ _ | refine blk_drew ?_ | refine blk_alloc ?_ _)); exact BK273.out)) : gb290 ≠ gb273)); have n9_ := Aside0.mk ((by rw [hg]; exact Nat.ne_of_lt (blk_lt (g := gb274) (o := .cells #[.string a1_0, .int .i64 a1_1, .int .i64 a1_2, .string a1_3, .bool a1_4, .int .i64 a1_5] 27 (0, 0)) (by (with_reducible repeat (first | refine blk_drewN ?_ _ | refine blk_drew ?_ | refine blk_alloc ?_ _)); exact BK274.out)) : gb274 ≠ gb290)); have n10_ := Aside0.mk ((by rw [hg]; exact Nat.ne_of_gt (blk_lt (g := gb274) (o := .cells #[.string a1_0, .int .i64 a1_1, .int .i64 a1_2, .string a1_3, .bool a1_4, .int .i64 a1_5] 27 (0, 0)) (by (with_reducible repeat (first | refine blk_drewN ?_ _ | refine blk_drew ?_ | refine blk_alloc ?_ _)); exact BK274.out)) : gb290 ≠ gb274)); have n11_ := Aside0.mk ((by rw [hg]; exact Nat.ne_of_lt (blk_lt (g := gb282) (o := .cells #[.string t275, .int .i64 t276, .int .i64 t277, .string t278, .bool t279, .int .i64 t280] 27 (0, 0)) (by (with_reducible repeat (first | refine blk_drewN ?_ _ | refine blk_drew ?_ | refine blk_alloc ?_ _)); exact BK282.out)) : gb282 ≠ gb290)); have n12_ := Aside0.mk ((by rw [hg]; exact Nat.ne_of_gt (blk_lt (g := gb282) (o := .cells #[.string t275, .int .i64 t276, .int .i64 t277, .string t278, .bool t279, .int .i64 t280] 27 (0, 0)) (by (with_reducible repeat (first | refine blk_drewN ?_ _ | refine blk_drew ?_ | refine blk_alloc ?_ _)); exact BK282.out)) : gb290 ≠ gb282)); clear BK273; clear BK274; clear BK282; clear HB; have BK273 := n0_; have BK274 := n1_; have BK282 := n2_; have HB := n3_; have BK290 := n4_; have GW290 := n5_; have GE290 := n6_; have NB273_290 := n7_; have NB290_273 := n8_; have NB274_290 := n9_; have NB290_274 := n10_; have NB282_290 := n11_; have NB290_282 := n12_; clear n0_ n1_ n2_ n3_ n4_ n5_ n6_ n7_ n8_ n9_ n10_ n11_ n12_; clear hb hbox hg; have hnb23 := NB290_273.out; have hnc23 := NB273_290.out; have hnb24 := NB290_274.out; have hnc24 := NB274_290.out; have hnb25 := NB290_282.out; have hnc25 := NB282_290.out; have hcz26_0 : w22.cell? ⟨gb290, 0, none⟩ = some (.string (⟨#[]⟩ : ByteArray)) := (blk_cell BK290.out 0).trans rfl; have hcz26_1 : w22.cell? ⟨gb290, 1, none⟩ = some (.int .i64 0) := (blk_cell BK290.out 1).trans rfl; have hcz26_2 : w22.cell? ⟨gb290, 2, none⟩ = some (.int .i64 0) := (blk_cell BK290.out 2).trans rfl; have hcz26_3 : w22.cell? ⟨gb290, 3, none⟩ = some (.string (⟨#[]⟩ : ByteArray)) := (blk_cell BK290.out 3).trans rfl; have hcz26_4 : w22.cell? ⟨gb290, 4, none⟩ = some (.bool false) := (blk_cell BK290.out 4).trans rfl; have hcz26_5 : w22.cell? ⟨gb290, 5, none⟩ = some (.int .i64 0) := (blk_cell BK290.out 5).trans rfl; have hfz26_0 := blk_frozen BK290.out 0; have hfz26_1 := blk_frozen BK290.out 1; have hfz26_2 := blk_frozen BK290.out 2; have hfz26_3 := blk_frozen BK290.out 3; have hfz26_4 := blk_frozen BK290.out 4; have hfz26_5 := blk_frozen BK290.out 5))
        have n0_ : Aside0 (((((((w22.setCell ⟨gb290, 0, none⟩ (.string t283)).setCell ⟨gb290, 1, none⟩ (.int .i64 t284)).setCell ⟨gb290, 2, none⟩ (.int .i64 t285)).setCell ⟨gb290, 3, none⟩ (.string t286)).setCell ⟨gb290, 4, none⟩ (.bool t287)).setCell ⟨gb290, 5, none⟩ (.int .i64 t288)).heap[gb273]? = some (.cells #[.int .i64 a0_0, .int .i64 a0_1, .string a0_2, .bool a0_3, .int .i64 a0_4] 25 (0, 0))) := ⟨by (with_reducible repeat (first | refine blk_drewN ?_ _ | refine blk_drew ?_ | refine blk_alloc ?_ _)); refine blk_far ?_ NB273_290.out _; (with_reducible repeat (first | refine blk_drewN ?_ _ | refine blk_drew ?_ | refine blk_alloc ?_ _)); refine blk_far ?_ NB273_290.out _; (with_reducible repeat (first | refine blk_drewN ?_ _ | refine blk_drew ?_ | refine blk_alloc ?_ _)); refine blk_far ?_ NB273_290.out _; (with_reducible repeat (first | refine blk_drewN ?_ _ | refine blk_drew ?_ | refine blk_alloc ?_ _)); refine blk_far ?_ NB273_290.out _; (with_reducible repeat (first | refine blk_drewN ?_ _ | refine blk_drew ?_ | refine blk_alloc ?_ _)); refine blk_far ?_ NB273_290.out _; (with_reducible repeat (first | refine blk_drewN ?_ _ | refine blk_drew ?_ | refine blk_alloc ?_ _)); refine blk_far ?_ NB273_290.out _; (with_reducible repeat (first | refine blk_drewN ?_ _ | refine blk_drew ?_ | refine blk_alloc ?_ _)); exact BK273.out⟩
        have n1_ : Aside0 (((((((w22.setCell ⟨gb290, 0, none⟩ (.string t283)).setCell ⟨gb290, 1, none⟩ (.int .i64 t284)).setCell ⟨gb290, 2, none⟩ (.int .i64 t285)).setCell ⟨gb290, 3, none⟩ (.string t286)).setCell ⟨gb290, 4, none⟩ (.bool t287)).setCell ⟨gb290, 5, none⟩ (.int .i64 t288)).heap[gb274]? = some (.cells #[.string a1_0, .int .i64 a1_1, .int .i64 a1_2, .string a1_3, .bool a1_4, .int .i64 a1_5] 27 (0, 0))) := ⟨by (with_reducible repeat (first | refine blk_drewN ?_ _ | refine blk_drew ?_ | refine blk_alloc ?_ _)); refine blk_far ?_ NB274_290.out _; (with_reducible repeat (first | refine blk_drewN ?_ _ | refine blk_drew ?_ | refine blk_alloc ?_ _)); refine blk_far ?_ NB274_290.out _; (with_reducible repeat (first | refine blk_drewN ?_ _ | refine blk_drew ?_ | refine blk_alloc ?_ _)); refine blk_far ?_ NB274_290.out _; (with_reducible repeat (first | refine blk_drewN ?_ _ | refine blk_drew ?_ | refine blk_alloc ?_ _)); refine blk_far ?_ NB274_290.out _; (with_reducible repeat (first | refine blk_drewN ?_ _ | refine blk_drew ?_ | refine blk_alloc ?_ _)); refine blk_far ?_ NB274_290.out _; (with_reducible repeat (first | refine blk_drewN ?_ _ | refine blk_drew ?_ | refine blk_alloc ?_ _)); refine blk_far ?_ NB274_290.out _; (with_reducible repeat (first | refine blk_drewN ?_ _ | refine blk_drew ?_ | refine blk_alloc ?_ _)); exact BK274.out⟩
        have n2_ : Aside0 (((((((w22.setCell ⟨gb290, 0, none⟩ (.string t283)).setCell ⟨gb290, 1, none⟩ (.int .i64 t284)).setCell ⟨gb290, 2, none⟩ (.int .i64 t285)).setCell ⟨gb290, 3, none⟩ (.string t286)).setCell ⟨gb290, 4, none⟩ (.bool t287)).setCell ⟨gb290, 5, none⟩ (.int .i64 t288)).heap[gb282]? = some (.cells #[.string t275, .int .i64 t276, .int .i64 t277, .string t278, .bool t279, .int .i64 t280] 27 (0, 0))) := ⟨by (with_reducible repeat (first | refine blk_drewN ?_ _ | refine blk_drew ?_ | refine blk_alloc ?_ _)); refine blk_far ?_ NB282_290.out _; (with_reducible repeat (first | refine blk_drewN ?_ _ | refine blk_drew ?_ | refine blk_alloc ?_ _)); refine blk_far ?_ NB282_290.out _; (with_reducible repeat (first | refine blk_drewN ?_ _ | refine blk_drew ?_ | refine blk_alloc ?_ _)); refine blk_far ?_ NB282_290.out _; (with_reducible repeat (first | refine blk_drewN ?_ _ | refine blk_drew ?_ | refine blk_alloc ?_ _)); refine blk_far ?_ NB282_290.out _; (with_reducible repeat (first | refine blk_drewN ?_ _ | refine blk_drew ?_ | refine blk_alloc ?_ _)); refine blk_far ?_ NB282_290.out _; (with_reducible repeat (first | refine blk_drewN ?_ _ | refine blk_drew ?_ | refine blk_alloc ?_ _)); refine blk_far ?_ NB282_290.out _; (with_reducible repeat (first | refine blk_drewN ?_ _ | refine blk_drew ?_ | refine blk_alloc ?_ _)); exact BK282.out⟩
        have n3_ : Aside0 (((((((w22.setCell ⟨gb290, 0, none⟩ (.string t283)).setCell ⟨gb290, 1, none⟩ (.int .i64 t284)).setCell ⟨gb290, 2, none⟩ (.int .i64 t285)).setCell ⟨gb290, 3, none⟩ (.string t286)).setCell ⟨gb290, 4, none⟩ (.bool t287)).setCell ⟨gb290, 5, none⟩ (.int .i64 t288)).heap[gb290]? = some (.cells #[.string t283, .int .i64 t284, .int .i64 t285, .string t286, .bool t287, .int .i64 t288] 27 (0, 0))) := ⟨by (with_reducible repeat (first | refine blk_drewN ?_ _ | refine blk_drew ?_ | refine blk_alloc ?_ _)); refine blk_put (cs := #[.string t283, .int .i64 t284, .int .i64 t285, .string t286, .bool t287, .int .i64 0]) ?_ 5 _ rfl; (with_reducible repeat (first | refine blk_drewN ?_ _ | refine blk_drew ?_ | refine blk_alloc ?_ _)); refine blk_put (cs := #[.string t283, .int .i64 t284, .int .i64 t285, .string t286, .bool false, .int .i64 0]) ?_ 4 _ rfl; (with_reducible repeat (first | refine blk_drewN ?_ _ | refine blk_drew ?_ | refine blk_alloc ?_ _)); refine blk_put (cs := #[.string t283, .int .i64 t284, .int .i64 t285, .string (⟨#[]⟩ : ByteArray), .bool false, .int .i64 0]) ?_ 3 _ rfl; (with_reducible repeat (first | refine blk_drewN ?_ _ | refine blk_drew ?_ | refine blk_alloc ?_ _)); refine blk_put (cs := #[.string t283, .int .i64 t284, .int .i64 0, .string (⟨#[]⟩ : ByteArray), .bool false, .int .i64 0]) ?_ 2 _ rfl; (with_reducible repeat (first | refine blk_drewN ?_ _ | refine blk_drew ?_ | refine blk_alloc ?_ _)); refine blk_put (cs := #[.string t283, .int .i64 0, .int .i64 0, .string (⟨#[]⟩ : ByteArray), .bool false, .int .i64 0]) ?_ 1 _ rfl; (with_reducible repeat (first | refine blk_drewN ?_ _ | refine blk_drew ?_ | refine blk_alloc ?_ _)); refine blk_put (cs := #[.string (⟨#[]⟩ : ByteArray), .int .i64 0, .int .i64 0, .string (⟨#[]⟩ : ByteArray), .bool false, .int .i64 0]) ?_ 0 _ rfl; (with_reducible repeat (first | refine blk_drewN ?_ _ | refine blk_drew ?_ | refine blk_alloc ?_ _)); exact BK290.out⟩
        have n4_ : Aside0 (Below w.heap.size w ((((((w22.setCell ⟨gb290, 0, none⟩ (.string t283)).setCell ⟨gb290, 1, none⟩ (.int .i64 t284)).setCell ⟨gb290, 2, none⟩ (.int .i64 t285)).setCell ⟨gb290, 3, none⟩ (.string t286)).setCell ⟨gb290, 4, none⟩ (.bool t287)).setCell ⟨gb290, 5, none⟩ (.int .i64 t288))) := ⟨by repeat (first | (with_reducible first | exact HB.out | apply below_alloc | apply pw_below_drewN | apply below_drew1 | refine below_set ?_ GE273.out | refine below_set ?_ GE274.out | refine below_set ?_ GE282.out | refine below_set ?_ GE290.out) | exact HB.out)⟩
        (try clear BK273)
        (try clear BK274)
        (try clear BK282)
        (try clear BK290)
        (try clear HB)
        generalize ((((((w22.setCell ⟨gb290, 0, none⟩ (.string t283)).setCell ⟨gb290, 1, none⟩ (.int .i64 t284)).setCell ⟨gb290, 2, none⟩ (.int .i64 t285)).setCell ⟨gb290, 3, none⟩ (.string t286)).setCell ⟨gb290, 4, none⟩ (.bool t287)).setCell ⟨gb290, 5, none⟩ (.int .i64 t288)) = w27 at n0_ n1_ n2_ n3_ n4_ ⊢
        have BK273 := n0_
        have BK274 := n1_
        have BK282 := n2_
        have BK290 := n3_
        have HB := n4_
        clear n0_ n1_ n2_ n3_ n4_
        have n0_ := Aside0.mk (blk_drew BK273.out)
        have n1_ := Aside0.mk (blk_drew BK274.out)
        have n2_ := Aside0.mk (blk_drew BK282.out)
        have n3_ := Aside0.mk (blk_drew BK290.out)
        have n4_ := Aside0.mk (below_drew1 HB.out)
        clear BK273
        clear BK274
        clear BK282
        clear BK290
        clear HB
        have BK273 := n0_
        have BK274 := n1_
        have BK282 := n2_
        have BK290 := n3_
        have HB := n4_
        clear n0_ n1_ n2_ n3_ n4_
        refine start_ (n := 19) (S := fun w' => w'.cell? ⟨gb282, 0, none⟩ = some (.string t275) ∧ w'.cell? ⟨gb282, 1, none⟩ = some (.int .i64 t276) ∧ w'.cell? ⟨gb282, 2, none⟩ = some (.int .i64 t277) ∧ w'.cell? ⟨gb282, 3, none⟩ = some (.string t278) ∧ w'.cell? ⟨gb282, 4, none⟩ = some (.bool t279) ∧ w'.cell? ⟨gb282, 5, none⟩ = some (.int .i64 t280) ∧ w'.cell? ⟨gb290, 0, none⟩ = some (.string t283) ∧ w'.cell? ⟨gb290, 1, none⟩ = some (.int .i64 t284) ∧ w'.cell? ⟨gb290, 2, none⟩ = some (.int .i64 t285) ∧ w'.cell? ⟨gb290, 3, none⟩ = some (.string t286) ∧ w'.cell? ⟨gb290, 4, none⟩ = some (.bool t287) ∧ w'.cell? ⟨gb290, 5, none⟩ = some (.int .i64 t288) ∧ w'.cell? ⟨gb274, 0, none⟩ = some (.string a1_0) ∧ w'.cell? ⟨gb274, 1, none⟩ = some (.int .i64 a1_1) ∧ w'.cell? ⟨gb274, 2, none⟩ = some (.int .i64 a1_2) ∧ w'.cell? ⟨gb274, 3, none⟩ = some (.string a1_3) ∧ w'.cell? ⟨gb274, 4, none⟩ = some (.bool a1_4) ∧ w'.cell? ⟨gb274, 5, none⟩ = some (.int .i64 a1_5)) (ds := []) #[false, false, false, false, false, false, false, false, false, false, false, false, false, false, false, false, false, false, false] (by kernel_rfl) rfl rfl ⟨(blk_cell BK282.out 0).trans rfl, (blk_cell BK282.out 1).trans rfl, (blk_cell BK282.out 2).trans rfl, (blk_cell BK282.out 3).trans rfl, (blk_cell BK282.out 4).trans rfl, (blk_cell BK282.out 5).trans rfl, (blk_cell BK290.out 0).trans rfl, (blk_cell BK290.out 1).trans rfl, (blk_cell BK290.out 2).trans rfl, (blk_cell BK290.out 3).trans rfl, (blk_cell BK290.out 4).trans rfl, (blk_cell BK290.out 5).trans rfl, (blk_cell BK274.out 0).trans rfl, (blk_cell BK274.out 1).trans rfl, (blk_cell BK274.out 2).trans rfl, (blk_cell BK274.out 3).trans rfl, (blk_cell BK274.out 4).trans rfl, (blk_cell BK274.out 5).trans rfl⟩ (fun hHeld => ?_); refine with_tabW foolscaplaw13_CritReads.tab3 foolscaplaw13_CritReads.bits3 (fun HT_ HW_ => ?_)
        generalize w27.drew = w28 at BK273 BK274 BK282 BK290 HB hHeld ⊢
        refine take_ (i := 0) (N := some 19) (v := ?_) (a' := ?_) #[true, false, false, false, false, false, false, false, false, false, false, false, false, false, false, false, false, false, false] rfl rfl (take_ofW HT_.out HW_.out (by kernel_rfl)) (fun _ _ _ h => h) (Or.inl ⟨by rfl, ?_⟩) hHeld ?_ ?_
        rotate_left
        · rintro w' ⟨s0, s1, s2, s3, s4, s5, s6, s7, s8, s9, s10, s11, s12, s13, s14, s15, s16, s17⟩
          go_simp
          with_reducible rfl
        rotate_left
        · simp only [Act.put, List.setIfInBounds_toArray, List.set_cons_zero, List.set_cons_succ, i64_w, i32_w]
          rfl
        refine take_ (i := 1) (N := some 20) (v := ?_) (a' := ?_) #[true, true, false, false, false, false, false, false, false, false, false, false, false, false, false, false, false, false, false] rfl rfl (take_ofW HT_.out HW_.out (by kernel_rfl)) (fun _ _ _ h => h) (Or.inl ⟨by rfl, ?_⟩) hHeld ?_ ?_
        rotate_left
        · rintro w' ⟨s0, s1, s2, s3, s4, s5, s6, s7, s8, s9, s10, s11, s12, s13, s14, s15, s16, s17⟩
          go_simp
          with_reducible rfl
        rotate_left
        · simp only [Act.put, List.setIfInBounds_toArray, List.set_cons_zero, List.set_cons_succ, i64_w, i32_w]
          rfl
        refine pure_ (i := 2) (N := some 21) (v := ?_) (a' := ?_) #[true, true, true, false, false, false, false, false, false, false, false, false, false, false, false, false, false, false, false] rfl rfl (any_of HT_.out (by kernel_rfl)) (fun _ _ _ h => h) (Or.inl ⟨by rfl, ?_⟩) ?_ ?_
        rotate_left
        · intro w'
          go_simp
          with_reducible rfl
        rotate_left
        · simp only [Act.put, List.setIfInBounds_toArray, List.set_cons_zero, List.set_cons_succ, i64_w, i32_w]
          rfl
        refine pure_ (i := 3) (N := some 22) (v := ?_) (a' := ?_) #[true, true, true, true, false, false, false, false, false, false, false, false, false, false, false, false, false, false, false] rfl rfl (any_of HT_.out (by kernel_rfl)) (fun _ _ _ h => h) (Or.inl ⟨by rfl, ?_⟩) ?_ ?_
        rotate_left
        · intro w'
          go_simp
          with_reducible rfl
        rotate_left
        · simp only [Act.put, List.setIfInBounds_toArray, List.set_cons_zero, List.set_cons_succ, i64_w, i32_w]
          rfl
        refine pure_ (i := 4) (N := some 23) (v := ?_) (a' := ?_) #[true, true, true, true, true, false, false, false, false, false, false, false, false, false, false, false, false, false, false] rfl rfl (any_of HT_.out (by kernel_rfl)) (fun _ _ _ h => h) (Or.inl ⟨by rfl, ?_⟩) ?_ ?_
        rotate_left
        · intro w'
          go_simp
          with_reducible rfl
        rotate_left
        · simp only [Act.put, List.setIfInBounds_toArray, List.set_cons_zero, List.set_cons_succ, i64_w, i32_w]
          rfl
        refine pure_ (i := 5) (N := some 24) (v := ?_) (a' := ?_) #[true, true, true, true, true, true, false, false, false, false, false, false, false, false, false, false, false, false, false] rfl rfl (any_of HT_.out (by kernel_rfl)) (fun _ _ _ h => h) (Or.inl ⟨by rfl, ?_⟩) ?_ ?_
        rotate_left
        · intro w'
          go_simp
          with_reducible rfl
        rotate_left
        · simp only [Act.put, List.setIfInBounds_toArray, List.set_cons_zero, List.set_cons_succ, i64_w, i32_w]
          rfl
        refine pure_ (i := 6) (N := some 25) (v := ?_) (a' := ?_) #[true, true, true, true, true, true, true, false, false, false, false, false, false, false, false, false, false, false, false] rfl rfl (any_of HT_.out (by kernel_rfl)) (fun _ _ _ h => h) (Or.inl ⟨by rfl, ?_⟩) ?_ ?_
        rotate_left
        · intro w'
          go_simp
          with_reducible rfl
        rotate_left
        · simp only [Act.put, List.setIfInBounds_toArray, List.set_cons_zero, List.set_cons_succ, i64_w, i32_w]
          rfl
        refine pure_ (i := 7) (N := some 26) (v := ?_) (a' := ?_) #[true, true, true, true, true, true, true, true, false, false, false, false, false, false, false, false, false, false, false] rfl rfl (any_of HT_.out (by kernel_rfl)) (fun _ _ _ h => h) (Or.inl ⟨by rfl, ?_⟩) ?_ ?_
        rotate_left
        · intro w'
          go_simp
          with_reducible rfl
        rotate_left
        · simp only [Act.put, List.setIfInBounds_toArray, List.set_cons_zero, List.set_cons_succ, i64_w, i32_w]
          rfl
        refine pure_ (i := 8) (N := some 27) (v := ?_) (a' := ?_) #[true, true, true, true, true, true, true, true, true, false, false, false, false, false, false, false, false, false, false] rfl rfl (any_of HT_.out (by kernel_rfl)) (fun _ _ _ h => h) (Or.inl ⟨by rfl, ?_⟩) ?_ ?_
        rotate_left
        · intro w'
          go_simp
          with_reducible rfl
        rotate_left
        · simp only [Act.put, List.setIfInBounds_toArray, List.set_cons_zero, List.set_cons_succ, i64_w, i32_w]
          rfl
        refine take_ (i := 9) (N := some 28) (v := ?_) (a' := ?_) #[true, true, true, true, true, true, true, true, true, true, false, false, false, false, false, false, false, false, false] rfl rfl (take_ofW HT_.out HW_.out (by kernel_rfl)) (fun _ _ _ h => h) (Or.inl ⟨by rfl, ?_⟩) hHeld ?_ ?_
        rotate_left
        · rintro w' ⟨s0, s1, s2, s3, s4, s5, s6, s7, s8, s9, s10, s11, s12, s13, s14, s15, s16, s17⟩
          go_simp
          with_reducible rfl
        rotate_left
        · simp only [Act.put, List.setIfInBounds_toArray, List.set_cons_zero, List.set_cons_succ, i64_w, i32_w]
          rfl
        refine take_ (i := 11) (N := some 30) (v := ?_) (a' := ?_) #[true, true, true, true, true, true, true, true, true, true, false, true, false, false, false, false, false, false, false] rfl rfl (take_ofW HT_.out HW_.out (by kernel_rfl)) (fun _ _ _ h => h) (Or.inl ⟨by rfl, ?_⟩) hHeld ?_ ?_
        rotate_left
        · rintro w' ⟨s0, s1, s2, s3, s4, s5, s6, s7, s8, s9, s10, s11, s12, s13, s14, s15, s16, s17⟩
          go_simp
          with_reducible rfl
        rotate_left
        · simp only [Act.put, List.setIfInBounds_toArray, List.set_cons_zero, List.set_cons_succ, i64_w, i32_w]
          rfl
        refine one_ (i := 10) (N := some 29) #[true, true, true, true, true, true, true, true, true, true, true, true, false, false, false, false, false, false, false] rfl rfl (one_of HT_.out (by kernel_rfl)) (by decide) (fun K hK => ?_)
        refine goes_ Tryz.func9 (by kernel_rfl) rfl #[.agg #[.string a1_0, .int .i64 a1_1, .int .i64 a1_2, .string a1_3, .bool a1_4, .int .i64 a1_5]] (by rfl) rfl rfl (by (try simp only [List.map_toArray, List.map_cons, List.map_nil]); first | done | rfl | (simp only [List.length_drop, List.length_take]; rfl) | (simp only [ByteArray.size_append, Int.natCast_add]; done) | (simp only [ByteArray.size_append, Int.natCast_add]; rfl) | (simp only [Array.mk.injEq, List.cons.injEq, Value.int.injEq, true_and, and_true]; (try simp only [mx, mn, wrap64] at *); omega)) ?_
        with_reducible refine (crit_Check.calls a1_0 a1_1 a1_2 a1_3 a1_4 a1_5 t291 _ A7.out).mono ?_
        rintro e w29 ⟨rfl, hb⟩
        refine ⟨_, rfl, ?_⟩
        have n0_ := Aside0.mk (blk_below (g := gb273) (o := .cells #[.int .i64 a0_0, .int .i64 a0_1, .string a0_2, .bool a0_3, .int .i64 a0_4] 25 (0, 0)) (by (with_reducible repeat (first | refine blk_drewN ?_ _ | refine blk_drew ?_ | refine blk_alloc ?_ _)); exact BK273.out) hb)
        have n1_ := Aside0.mk (blk_below (g := gb274) (o := .cells #[.string a1_0, .int .i64 a1_1, .int .i64 a1_2, .string a1_3, .bool a1_4, .int .i64 a1_5] 27 (0, 0)) (by (with_reducible repeat (first | refine blk_drewN ?_ _ | refine blk_drew ?_ | refine blk_alloc ?_ _)); exact BK274.out) hb)
        have n2_ := Aside0.mk (blk_below (g := gb282) (o := .cells #[.string t275, .int .i64 t276, .int .i64 t277, .string t278, .bool t279, .int .i64 t280] 27 (0, 0)) (by (with_reducible repeat (first | refine blk_drewN ?_ _ | refine blk_drew ?_ | refine blk_alloc ?_ _)); exact BK282.out) hb)
        have n3_ := Aside0.mk (blk_below (g := gb290) (o := .cells #[.string t283, .int .i64 t284, .int .i64 t285, .string t286, .bool t287, .int .i64 t288] 27 (0, 0)) (by (with_reducible repeat (first | refine blk_drewN ?_ _ | refine blk_drew ?_ | refine blk_alloc ?_ _)); exact BK290.out) hb)
        have n4_ := Aside0.mk (below_step (by repeat (first | (with_reducible first | exact HB.out | apply below_alloc | apply pw_below_drewN | apply below_drew1 | refine below_set ?_ GE273.out | refine below_set ?_ GE274.out | refine below_set ?_ GE282.out | refine below_set ?_ GE290.out) | exact HB.out)) hb)
        clear BK273
        clear BK274
        clear BK282
        clear BK290
        clear HB
        have BK273 := n0_
        have BK274 := n1_
        have BK282 := n2_
        have BK290 := n3_
        have HB := n4_
        clear n0_ n1_ n2_ n3_ n4_
        (try clear hb)
        (try clear hb2)
        (try clear hk)
        (try clear hi)
        refine hK.out _ _ ⟨(blk_cell BK282.out 0).trans rfl, (blk_cell BK282.out 1).trans rfl, (blk_cell BK282.out 2).trans rfl, (blk_cell BK282.out 3).trans rfl, (blk_cell BK282.out 4).trans rfl, (blk_cell BK282.out 5).trans rfl, (blk_cell BK290.out 0).trans rfl, (blk_cell BK290.out 1).trans rfl, (blk_cell BK290.out 2).trans rfl, (blk_cell BK290.out 3).trans rfl, (blk_cell BK290.out 4).trans rfl, (blk_cell BK290.out 5).trans rfl, (blk_cell BK274.out 0).trans rfl, (blk_cell BK274.out 1).trans rfl, (blk_cell BK274.out 2).trans rfl, (blk_cell BK274.out 3).trans rfl, (blk_cell BK274.out 4).trans rfl, (blk_cell BK274.out 5).trans rfl⟩ (fun hHeld => ?_)
        clear hK K
        refine norm_ (a' := ?_) ?_ ?_
        rotate_left
        · show Act.put _ (some 29) _ = _
          simp only [Act.put, List.setIfInBounds_toArray, List.set_cons_zero, List.set_cons_succ, i64_w, i32_w]
          rfl
        refine one_ (i := 12) (N := some 31) #[true, true, true, true, true, true, true, true, true, true, true, true, true, false, false, false, false, false, false] rfl rfl (one_of HT_.out (by kernel_rfl)) (by decide) (fun K hK => ?_)
        refine goes_ Tryz.func10 (by kernel_rfl) rfl #[.agg #[.string a1_0, .int .i64 a1_1, .int .i64 a1_2, .string a1_3, .bool a1_4, .int .i64 a1_5]] (by rfl) rfl rfl (by (try simp only [List.map_toArray, List.map_cons, List.map_nil]); first | done | rfl | (simp only [List.length_drop, List.length_take]; rfl) | (simp only [ByteArray.size_append, Int.natCast_add]; done) | (simp only [ByteArray.size_append, Int.natCast_add]; rfl) | (simp only [Array.mk.injEq, List.cons.injEq, Value.int.injEq, true_and, and_true]; (try simp only [mx, mn, wrap64] at *); omega)) ?_
        with_reducible refine (foolscapref13_Check.calls a1_0 a1_1 a1_2 a1_3 a1_4 a1_5 t292 _ A8.out).mono ?_
        rintro e w30 ⟨rfl, hb⟩
        refine ⟨_, rfl, ?_⟩
        have n0_ := Aside0.mk (blk_below (g := gb273) (o := .cells #[.int .i64 a0_0, .int .i64 a0_1, .string a0_2, .bool a0_3, .int .i64 a0_4] 25 (0, 0)) (by (with_reducible repeat (first | refine blk_drewN ?_ _ | refine blk_drew ?_ | refine blk_alloc ?_ _)); exact BK273.out) hb)
        have n1_ := Aside0.mk (blk_below (g := gb274) (o := .cells #[.string a1_0, .int .i64 a1_1, .int .i64 a1_2, .string a1_3, .bool a1_4, .int .i64 a1_5] 27 (0, 0)) (by (with_reducible repeat (first | refine blk_drewN ?_ _ | refine blk_drew ?_ | refine blk_alloc ?_ _)); exact BK274.out) hb)
        have n2_ := Aside0.mk (blk_below (g := gb282) (o := .cells #[.string t275, .int .i64 t276, .int .i64 t277, .string t278, .bool t279, .int .i64 t280] 27 (0, 0)) (by (with_reducible repeat (first | refine blk_drewN ?_ _ | refine blk_drew ?_ | refine blk_alloc ?_ _)); exact BK282.out) hb)
        have n3_ := Aside0.mk (blk_below (g := gb290) (o := .cells #[.string t283, .int .i64 t284, .int .i64 t285, .string t286, .bool t287, .int .i64 t288] 27 (0, 0)) (by (with_reducible repeat (first | refine blk_drewN ?_ _ | refine blk_drew ?_ | refine blk_alloc ?_ _)); exact BK290.out) hb)
        have n4_ := Aside0.mk (below_step (by repeat (first | (with_reducible first | exact HB.out | apply below_alloc | apply pw_below_drewN | apply below_drew1 | refine below_set ?_ GE273.out | refine below_set ?_ GE274.out | refine below_set ?_ GE282.out | refine below_set ?_ GE290.out) | exact HB.out)) hb)
        clear BK273
        clear BK274
        clear BK282
        clear BK290
        clear HB
        have BK273 := n0_
        have BK274 := n1_
        have BK282 := n2_
        have BK290 := n3_
        have HB := n4_
        clear n0_ n1_ n2_ n3_ n4_
        (try clear hb)
        (try clear hb2)
        (try clear hk)
        (try clear hi)
        refine hK.out _ _ ⟨(blk_cell BK282.out 0).trans rfl, (blk_cell BK282.out 1).trans rfl, (blk_cell BK282.out 2).trans rfl, (blk_cell BK282.out 3).trans rfl, (blk_cell BK282.out 4).trans rfl, (blk_cell BK282.out 5).trans rfl, (blk_cell BK290.out 0).trans rfl, (blk_cell BK290.out 1).trans rfl, (blk_cell BK290.out 2).trans rfl, (blk_cell BK290.out 3).trans rfl, (blk_cell BK290.out 4).trans rfl, (blk_cell BK290.out 5).trans rfl, (blk_cell BK274.out 0).trans rfl, (blk_cell BK274.out 1).trans rfl, (blk_cell BK274.out 2).trans rfl, (blk_cell BK274.out 3).trans rfl, (blk_cell BK274.out 4).trans rfl, (blk_cell BK274.out 5).trans rfl⟩ (fun hHeld => ?_)
        clear hK K
        refine norm_ (a' := ?_) ?_ ?_
        rotate_left
        · show Act.put _ (some 31) _ = _
          simp only [Act.put, List.setIfInBounds_toArray, List.set_cons_zero, List.set_cons_succ, i64_w, i32_w]
          rfl
        refine pure_ (i := 13) (N := some 32) (v := ?_) (a' := ?_) #[true, true, true, true, true, true, true, true, true, true, true, true, true, true, false, false, false, false, false] rfl rfl (any_of HT_.out (by kernel_rfl)) (fun _ _ _ h => h) (Or.inl ⟨by rfl, ?_⟩) ?_ ?_
        rotate_left
        · intro w'
          go_simp
          with_reducible rfl
        rotate_left
        · simp only [Act.put, List.setIfInBounds_toArray, List.set_cons_zero, List.set_cons_succ, i64_w, i32_w]
          rfl
        refine pure_ (i := 14) (N := some 33) (v := ?_) (a' := ?_) #[true, true, true, true, true, true, true, true, true, true, true, true, true, true, true, false, false, false, false] rfl rfl (any_of HT_.out (by kernel_rfl)) (fun _ _ _ h => h) (Or.inl ⟨by rfl, ?_⟩) ?_ ?_
        rotate_left
        · intro w'
          go_simp
          with_reducible rfl
        rotate_left
        · simp only [Act.put, List.setIfInBounds_toArray, List.set_cons_zero, List.set_cons_succ, i64_w, i32_w]
          rfl
        refine pure_ (i := 15) (N := some 34) (v := ?_) (a' := ?_) #[true, true, true, true, true, true, true, true, true, true, true, true, true, true, true, true, false, false, false] rfl rfl (any_of HT_.out (by kernel_rfl)) (fun _ _ _ h => h) (Or.inl ⟨by rfl, ?_⟩) ?_ ?_
        rotate_left
        · intro w'
          go_simp
          with_reducible rfl
        rotate_left
        · simp only [Act.put, List.setIfInBounds_toArray, List.set_cons_zero, List.set_cons_succ, i64_w, i32_w]
          rfl
        refine one_ (i := 16) (N := some 35) #[true, true, true, true, true, true, true, true, true, true, true, true, true, true, true, true, true, false, false] rfl rfl (one_of HT_.out (by kernel_rfl)) (by decide) (fun K hK => ?_)
        refine goes_ Tryz.func11 (by kernel_rfl) rfl #[] (by rfl) rfl rfl (by (try simp only [List.map_toArray, List.map_cons, List.map_nil]); first | done | rfl | (simp only [List.length_drop, List.length_take]; rfl) | (simp only [ByteArray.size_append, Int.natCast_add]; done) | (simp only [ByteArray.size_append, Int.natCast_add]; rfl) | (simp only [Array.mk.injEq, List.cons.injEq, Value.int.injEq, true_and, and_true]; (try simp only [mx, mn, wrap64] at *); omega)) ?_
        with_reducible refine (foolscaplaw13_lives.calls k  t293 _ A10.out).mono ?_
        rintro e w31 ⟨rfl, hb⟩
        refine ⟨_, rfl, ?_⟩
        have n0_ := Aside0.mk (blk_below (g := gb273) (o := .cells #[.int .i64 a0_0, .int .i64 a0_1, .string a0_2, .bool a0_3, .int .i64 a0_4] 25 (0, 0)) (by (with_reducible repeat (first | refine blk_drewN ?_ _ | refine blk_drew ?_ | refine blk_alloc ?_ _)); exact BK273.out) hb)
        have n1_ := Aside0.mk (blk_below (g := gb274) (o := .cells #[.string a1_0, .int .i64 a1_1, .int .i64 a1_2, .string a1_3, .bool a1_4, .int .i64 a1_5] 27 (0, 0)) (by (with_reducible repeat (first | refine blk_drewN ?_ _ | refine blk_drew ?_ | refine blk_alloc ?_ _)); exact BK274.out) hb)
        have n2_ := Aside0.mk (blk_below (g := gb282) (o := .cells #[.string t275, .int .i64 t276, .int .i64 t277, .string t278, .bool t279, .int .i64 t280] 27 (0, 0)) (by (with_reducible repeat (first | refine blk_drewN ?_ _ | refine blk_drew ?_ | refine blk_alloc ?_ _)); exact BK282.out) hb)
        have n3_ := Aside0.mk (blk_below (g := gb290) (o := .cells #[.string t283, .int .i64 t284, .int .i64 t285, .string t286, .bool t287, .int .i64 t288] 27 (0, 0)) (by (with_reducible repeat (first | refine blk_drewN ?_ _ | refine blk_drew ?_ | refine blk_alloc ?_ _)); exact BK290.out) hb)
        have n4_ := Aside0.mk (below_step (by repeat (first | (with_reducible first | exact HB.out | apply below_alloc | apply pw_below_drewN | apply below_drew1 | refine below_set ?_ GE273.out | refine below_set ?_ GE274.out | refine below_set ?_ GE282.out | refine below_set ?_ GE290.out) | exact HB.out)) hb)
        clear BK273
        clear BK274
        clear BK282
        clear BK290
        clear HB
        have BK273 := n0_
        have BK274 := n1_
        have BK282 := n2_
        have BK290 := n3_
        have HB := n4_
        clear n0_ n1_ n2_ n3_ n4_
        (try clear hb)
        (try clear hb2)
        (try clear hk)
        (try clear hi)
        refine hK.out _ _ ⟨(blk_cell BK282.out 0).trans rfl, (blk_cell BK282.out 1).trans rfl, (blk_cell BK282.out 2).trans rfl, (blk_cell BK282.out 3).trans rfl, (blk_cell BK282.out 4).trans rfl, (blk_cell BK282.out 5).trans rfl, (blk_cell BK290.out 0).trans rfl, (blk_cell BK290.out 1).trans rfl, (blk_cell BK290.out 2).trans rfl, (blk_cell BK290.out 3).trans rfl, (blk_cell BK290.out 4).trans rfl, (blk_cell BK290.out 5).trans rfl, (blk_cell BK274.out 0).trans rfl, (blk_cell BK274.out 1).trans rfl, (blk_cell BK274.out 2).trans rfl, (blk_cell BK274.out 3).trans rfl, (blk_cell BK274.out 4).trans rfl, (blk_cell BK274.out 5).trans rfl⟩ (fun hHeld => ?_)
        clear hK K
        refine norm_ (a' := ?_) ?_ ?_
        rotate_left
        · show Act.put _ (some 35) _ = _
          simp only [Act.put, List.setIfInBounds_toArray, List.set_cons_zero, List.set_cons_succ, i64_w, i32_w]
          rfl
        refine pure_ (i := 17) (N := some 36) (v := ?_) (a' := ?_) #[true, true, true, true, true, true, true, true, true, true, true, true, true, true, true, true, true, true, false] rfl rfl (any_of HT_.out (by kernel_rfl)) (fun _ _ _ h => h) (Or.inl ⟨by rfl, ?_⟩) ?_ ?_
        rotate_left
        · intro w'
          go_simp
          with_reducible rfl
        rotate_left
        · simp only [Act.put, List.setIfInBounds_toArray, List.set_cons_zero, List.set_cons_succ, i64_w, i32_w]
          rfl
        refine pure_ (i := 18) (N := some 4) (v := ?_) (a' := ?_) #[true, true, true, true, true, true, true, true, true, true, true, true, true, true, true, true, true, true, true] rfl rfl (any_of HT_.out (by kernel_rfl)) (fun _ _ _ h => h) (Or.inl ⟨by rfl, ?_⟩) ?_ ?_
        rotate_left
        · intro w'
          go_simp
          with_reducible rfl
        rotate_left
        · simp only [Act.put, List.setIfInBounds_toArray, List.set_cons_zero, List.set_cons_succ, i64_w, i32_w]
          rfl
        refine done_ (done_of HT_.out (by kernel_rfl)) ?_
        try go_wp2
        go_ret
        exact ⟨by first | rfl | (simp [errW_none, errW_some] <;> rfl) | (simp [*, errW_none, errW_some] <;> rfl), by repeat (first | (with_reducible first | exact HB.out | apply below_alloc | apply pw_below_drewN | apply below_drew1 | refine below_set ?_ GE273.out | refine below_set ?_ GE274.out | refine below_set ?_ GE282.out | refine below_set ?_ GE290.out) | exact HB.out)⟩
      · rw [if_neg c9] at H
        have c9b0 : (t291 == t292) = false := beq_eq_false_iff_ne.mpr c9
        have c9b1 : (t291 != t292) = true := bne_iff_ne.mpr c9
        exact absurd H (by simp)
    · rw [if_neg c6] at H
      have c6b0 : (t281 == t289) = false := beq_eq_false_iff_ne.mpr c6
      have c6b1 : (t281 != t289) = true := bne_iff_ne.mpr c6
      exact absurd H (by simp)
  · rw [if_neg c5] at H
    have c5b0 : (t275.toList == t283.toList && ((t276 == t284 && (t277 == t285 && (t278.toList == t286.toList && (t279 == t287 && (t280 == t288))))))) = false := by simpa using c5
    (try (have c5b1 : decide (t275.toList = t283.toList && ((t276 == t284 && (t277 == t285 && (t278.toList == t286.toList && (t279 == t287 && (t280 == t288))))))) = false := by simpa using c5))
    (try (have c5b2 : (t275.toList == t283.toList && ((t276 == t284 && (t277 == t285 && (t278.toList == t286.toList && (t279 == t287 && (t280 == t288))))))) = false := by simpa using c5))
    (try (have c5b3 : ¬ (t275.toList = t283.toList && ((t276 == t284 && (t277 == t285 && (t278.toList == t286.toList && (t279 == t287 && (t280 == t288))))))) := by simpa using c5))
    clear c5
    exact absurd H (by simp)
end Go.Proofs.YtngdggmlfoogcaaGreatDoor.Pr
end
