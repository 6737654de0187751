-- Printed by pr.py, a program of this claim's author, out of Lean's own print of the program. Not trusted: Lean checks it.
import Derived.Test.YtiloagepldeeeaaDoorPr0
import Derived.Test.YtiloagepldeeeaaDoorPr4
import Derived.Test.YtiloagepldeeeaaDoorPr6
import Derived.Test.YtiloagepldeeeaaDoorPr14
import Derived.Test.YtiloagepldeeeaaDoorLaid
namespace Go.Proofs.YtiloagepldeeeaaDoor.Pr
open Go.RowKit Go.Proofs.YtiloagepldeeeaaDoorW.PrintWords Go.Proofs.YtiloagepldeeeaaDoorW.PrintLast Go.Proofs.YtiloagepldeeeaaDoorW.PrintMore
attribute [local go_sem] max2_int min2_int max_two min_two max_three min_three max_four min_four   -- for this text's walks alone
set_option linter.unusedVariables false
set_option linter.unusedSimpArgs false

/-! ### foolscaplaw11_DatesThere: function 11 -/
def foolscaplaw11_DatesThere.j0 : Nat → Int → Int → Int → Bool → Option (Bool)
  | 0, _, _, _, _ => none
  | k + 1, x0, x1, x5, x78 => if x78 = true then (some false) else (if x1 ≥ 120000 then ((foolscaplaw11_lives.f k).bind fun t306 => (some t306)) else ((dates_Months.f k x0 (wrap64 (x1 + 1))).bind fun bt307 => (if bt307.2 = 0 then (if bt307.1 > x5 then ((foolscaplaw11_lives.f k).bind fun t309 => (some t309)) else (some false)) else ((foolscaplaw11_lives.f k).bind fun t310 => (some t310)))))
def foolscaplaw11_DatesThere.f (k : Nat) (a0 : Int) (a1 : Int) : Option (Bool) := (dates_Months.f k a0 a1).bind fun bt293 => (if bt293.2 = 0 then ((dates_Months.f k bt293.1 (wrap64 (-a1))).bind fun bt296 => ((dates_Parts.f a0).bind fun bt298 => ((dates_Parts.f bt296.1).bind fun bt302 => (if bt296.2 = 0 then (if bt298.1 = bt302.1 then (if bt298.2.1 = bt302.2.1 then (if bt302.2.2.1 > bt298.2.2.1 then (foolscaplaw11_DatesThere.j0 k a0 a1 bt293.1 true) else (if bt298.2.2.1 ≤ 28 then (foolscaplaw11_DatesThere.j0 k a0 a1 bt293.1 (bt296.1 != a0)) else (foolscaplaw11_DatesThere.j0 k a0 a1 bt293.1 false))) else (foolscaplaw11_DatesThere.j0 k a0 a1 bt293.1 true)) else (foolscaplaw11_DatesThere.j0 k a0 a1 bt293.1 true)) else (foolscaplaw11_DatesThere.j0 k a0 a1 bt293.1 true))))) else (if bt293.1 = 0 then ((foolscaplaw11_lives.f k).bind fun t295 => (some t295)) else (some false)))
theorem foolscaplaw11_DatesThere.mono_l : ∀ k, (∀ y0 y1 y2 y3, LeO (foolscaplaw11_DatesThere.j0 k y0 y1 y2 y3) (foolscaplaw11_DatesThere.j0 (k + 1) y0 y1 y2 y3))
  | 0 => fun _ _ _ _ r h => by simp [foolscaplaw11_DatesThere.j0] at h
  | k + 1 => by
    have ih0 := foolscaplaw11_DatesThere.mono_l k
    · intro y0 y1 y2 y3
      unfold foolscaplaw11_DatesThere.j0
      repeat' first
      | (with_reducible exact ih0 _ _ _ _)
      | (with_reducible exact dates_Months.mono _ _ _)
      | (with_reducible exact foolscaplaw11_lives.mono _)
      | (with_reducible exact LeO.refl _)
      | (with_reducible exact LeO.none _)
      | (with_reducible refine LeO.ite ?_ ?_)
      | (with_reducible refine LeO.bind ?_ (fun _ => ?_))
      | exact ih0 _ _ _ _
      | exact dates_Months.mono _ _ _
      | exact foolscaplaw11_lives.mono _
      | exact LeO.none _
      | refine LeO.ite ?_ ?_
      | refine LeO.bind ?_ (fun _ => ?_)
theorem foolscaplaw11_DatesThere.mono : ∀ a0 a1 k, LeO (foolscaplaw11_DatesThere.f k a0 a1) (foolscaplaw11_DatesThere.f (k + 1) a0 a1) := by
  intro a0 a1 k
  have ih0 := foolscaplaw11_DatesThere.mono_l k
  unfold foolscaplaw11_DatesThere.f
  repeat' first
      | (with_reducible exact ih0 _ _ _ _)
      | (with_reducible exact dates_Months.mono _ _ _)
      | (with_reducible exact foolscaplaw11_lives.mono _)
      | (with_reducible exact LeO.refl _)
      | (with_reducible exact LeO.none _)
      | (with_reducible refine LeO.ite ?_ ?_)
      | (with_reducible refine LeO.bind ?_ (fun _ => ?_))
      | exact ih0 _ _ _ _
      | exact dates_Months.mono _ _ _
      | exact foolscaplaw11_lives.mono _
      | exact LeO.none _
      | refine LeO.ite ?_ ?_
      | refine LeO.bind ?_ (fun _ => ?_)
set_option maxHeartbeats 8000000 in
set_option maxRecDepth 100000 in
theorem foolscaplaw11_DatesThere.calls (k : Nat) (a0 : Int) (a1 : Int) (r : Bool) (w : World) (h : foolscaplaw11_DatesThere.f k a0 a1 = some r) (hL0 : Aside0 (LaidW w)) :
    Calls Tryd.prog 11 #[.int .i64 a0, .int .i64 a1] w fun e w' => e = .returned (.bool r) ∧ Below w.heap.size w w' := by
  have HB := Aside0.mk (Below.refl w.heap.size w)
  have H : ((dates_Months.f k a0 a1).bind fun bt293 => (if bt293.2 = 0 then ((dates_Months.f k bt293.1 (wrap64 (-a1))).bind fun bt296 => ((dates_Parts.f a0).bind fun bt298 => ((dates_Parts.f bt296.1).bind fun bt302 => (if bt296.2 = 0 then (if bt298.1 = bt302.1 then (if bt298.2.1 = bt302.2.1 then (if bt302.2.2.1 > bt298.2.2.1 then (foolscaplaw11_DatesThere.j0 k a0 a1 bt293.1 true) else (if bt298.2.2.1 ≤ 28 then (foolscaplaw11_DatesThere.j0 k a0 a1 bt293.1 (bt296.1 != a0)) else (foolscaplaw11_DatesThere.j0 k a0 a1 bt293.1 false))) else (foolscaplaw11_DatesThere.j0 k a0 a1 bt293.1 true)) else (foolscaplaw11_DatesThere.j0 k a0 a1 bt293.1 true)) else (foolscaplaw11_DatesThere.j0 k a0 a1 bt293.1 true))))) else (if bt293.1 = 0 then ((foolscaplaw11_lives.f k).bind fun t295 => (some t295)) else (some false)))) = some r := h
  clear h
  replace H := Option.bind_eq_some_iff.mp H
  obtain ⟨⟨t293, t294⟩, A30, H⟩ := H
  replace H : (if t294 = 0 then ((dates_Months.f k t293 (wrap64 (-a1))).bind fun bt296 => ((dates_Parts.f a0).bind fun bt298 => ((dates_Parts.f bt296.1).bind fun bt302 => (if bt296.2 = 0 then (if bt298.1 = bt302.1 then (if bt298.2.1 = bt302.2.1 then (if bt302.2.2.1 > bt298.2.2.1 then (foolscaplaw11_DatesThere.j0 k a0 a1 t293 true) else (if bt298.2.2.1 ≤ 28 then (foolscaplaw11_DatesThere.j0 k a0 a1 t293 (bt296.1 != a0)) else (foolscaplaw11_DatesThere.j0 k a0 a1 t293 false))) else (foolscaplaw11_DatesThere.j0 k a0 a1 t293 true)) else (foolscaplaw11_DatesThere.j0 k a0 a1 t293 true)) else (foolscaplaw11_DatesThere.j0 k a0 a1 t293 true))))) else (if t293 = 0 then ((foolscaplaw11_lives.f k).bind fun t295 => (some t295)) else (some false))) = some r := H
  have A3 := Aside0.mk A30
  clear A30
  by_cases c4 : t294 = 0
  · rw [if_pos c4] at H
    have c4b0 : (t294 == 0) = true := beq_iff_eq.mpr c4
    have c4b1 : (t294 != 0) = false := bne_eq_false_iff_eq.mpr c4
    clear c4
    replace H := Option.bind_eq_some_iff.mp H
    obtain ⟨⟨t296, t297⟩, A50, H⟩ := H
    replace H : ((dates_Parts.f a0).bind fun bt298 => ((dates_Parts.f t296).bind fun bt302 => (if t297 = 0 then (if bt298.1 = bt302.1 then (if bt298.2.1 = bt302.2.1 then (if bt302.2.2.1 > bt298.2.2.1 then (foolscaplaw11_DatesThere.j0 k a0 a1 t293 true) else (if bt298.2.2.1 ≤ 28 then (foolscaplaw11_DatesThere.j0 k a0 a1 t293 (t296 != a0)) else (foolscaplaw11_DatesThere.j0 k a0 a1 t293 false))) else (foolscaplaw11_DatesThere.j0 k a0 a1 t293 true)) else (foolscaplaw11_DatesThere.j0 k a0 a1 t293 true)) else (foolscaplaw11_DatesThere.j0 k a0 a1 t293 true)))) = some r := H
    have A5 := Aside0.mk A50
    clear A50
    replace H := Option.bind_eq_some_iff.mp H
    obtain ⟨⟨t298, t299, t300, t301⟩, A60, H⟩ := H
    replace H : ((dates_Parts.f t296).bind fun bt302 => (if t297 = 0 then (if t298 = bt302.1 then (if t299 = bt302.2.1 then (if bt302.2.2.1 > t300 then (foolscaplaw11_DatesThere.j0 k a0 a1 t293 true) else (if t300 ≤ 28 then (foolscaplaw11_DatesThere.j0 k a0 a1 t293 (t296 != a0)) else (foolscaplaw11_DatesThere.j0 k a0 a1 t293 false))) else (foolscaplaw11_DatesThere.j0 k a0 a1 t293 true)) else (foolscaplaw11_DatesThere.j0 k a0 a1 t293 true)) else (foolscaplaw11_DatesThere.j0 k a0 a1 t293 true))) = some r := H
    have A6 := Aside0.mk A60
    clear A60
    replace H := Option.bind_eq_some_iff.mp H
    obtain ⟨⟨t302, t303, t304, t305⟩, A70, H⟩ := H
    replace H : (if t297 = 0 then (if t298 = t302 then (if t299 = t303 then (if t304 > t300 then (foolscaplaw11_DatesThere.j0 k a0 a1 t293 true) else (if t300 ≤ 28 then (foolscaplaw11_DatesThere.j0 k a0 a1 t293 (t296 != a0)) else (foolscaplaw11_DatesThere.j0 k a0 a1 t293 false))) else (foolscaplaw11_DatesThere.j0 k a0 a1 t293 true)) else (foolscaplaw11_DatesThere.j0 k a0 a1 t293 true)) else (foolscaplaw11_DatesThere.j0 k a0 a1 t293 true)) = some r := H
    have A7 := Aside0.mk A70
    clear A70
    have HC8 := Aside0.mk H
    clear H
    go_enter Tryd.func11, Tryd.ntmps11
    go_upto_region 7 with (first | ((with_reducible refine gate_callee (f := 17) rfl ?_); refine goesL_ (some 22) rfl rfl Tryd.func17 (by kernel_rfl) rfl #[.int .i64 a0, .int .i64 a1] rfl (by (try simp only [List.map_toArray, List.map_cons, List.map_nil]); first | done | rfl | (simp only [List.length_drop, List.length_take]; rfl) | (simp only [ByteArray.size_append, Int.natCast_add]; done) | (simp only [ByteArray.size_append, Int.natCast_add]; rfl) | (simp only [Array.mk.injEq, List.cons.injEq, Value.int.injEq, true_and, and_true]; (try simp only [mx, mn, wrap64] at *); omega)) ?_; (with_reducible refine (dates_Months.calls k a0 a1 t293 t294 _ A3.out).mono ?_); rintro e w9 ⟨rfl, hb⟩; refine ⟨_, rfl, ?_⟩; have n0_ := Aside0.mk (below_step (by repeat (first | (with_reducible first | exact HB.out | apply below_alloc | apply pw_below_drewN | apply below_drew1) | exact HB.out)) hb); clear HB; have HB := n0_; clear n0_; (try clear hb); (try clear hb2); (try clear hk); (try clear hi)) | ((with_reducible refine gate_callee (f := 17) rfl ?_); refine goesL_ (some 36) rfl rfl Tryd.func17 (by kernel_rfl) rfl #[.int .i64 t293, .int .i64 (wrap64 (-a1))] rfl (by (try simp only [List.map_toArray, List.map_cons, List.map_nil]); first | done | rfl | (simp only [List.length_drop, List.length_take]; rfl) | (simp only [ByteArray.size_append, Int.natCast_add]; done) | (simp only [ByteArray.size_append, Int.natCast_add]; rfl) | (simp only [Array.mk.injEq, List.cons.injEq, Value.int.injEq, true_and, and_true]; (try simp only [mx, mn, wrap64] at *); omega)) ?_; (with_reducible refine (dates_Months.calls k t293 (wrap64 (-a1)) t296 t297 _ A5.out).mono ?_); rintro e w10 ⟨rfl, hb⟩; refine ⟨_, rfl, ?_⟩; have n0_ := Aside0.mk (below_step (by repeat (first | (with_reducible first | exact HB.out | apply below_alloc | apply pw_below_drewN | apply below_drew1) | exact HB.out)) hb); clear HB; have HB := n0_; clear n0_; (try clear hb); (try clear hb2); (try clear hk); (try clear hi)) | ((with_reducible refine gate_callee (f := 21) rfl ?_); refine goesL_ (some 41) rfl rfl Tryd.func21 (by kernel_rfl) rfl #[.int .i64 a0] rfl (by (try simp only [List.map_toArray, List.map_cons, List.map_nil]); first | done | rfl | (simp only [List.length_drop, List.length_take]; rfl) | (simp only [ByteArray.size_append, Int.natCast_add]; done) | (simp only [ByteArray.size_append, Int.natCast_add]; rfl) | (simp only [Array.mk.injEq, List.cons.injEq, Value.int.injEq, true_and, and_true]; (try simp only [mx, mn, wrap64] at *); omega)) ?_; (with_reducible refine (dates_Parts.calls a0 t298 t299 t300 t301 _ A6.out).mono ?_); rintro e w11 ⟨rfl, hb⟩; refine ⟨_, rfl, ?_⟩; have n0_ := Aside0.mk (below_step (by repeat (first | (with_reducible first | exact HB.out | apply below_alloc | apply pw_below_drewN | apply below_drew1) | exact HB.out)) hb); clear HB; have HB := n0_; clear n0_; (try clear hb); (try clear hb2); (try clear hk); (try clear hi)) | ((with_reducible refine gate_callee (f := 21) rfl ?_); refine goesL_ (some 48) rfl rfl Tryd.func21 (by kernel_rfl) rfl #[.int .i64 t296] rfl (by (try simp only [List.map_toArray, List.map_cons, List.map_nil]); first | done | rfl | (simp only [List.length_drop, List.length_take]; rfl) | (simp only [ByteArray.size_append, Int.natCast_add]; done) | (simp only [ByteArray.size_append, Int.natCast_add]; rfl) | (simp only [Array.mk.injEq, List.cons.injEq, Value.int.injEq, true_and, and_true]; (try simp only [mx, mn, wrap64] at *); omega)) ?_; (with_reducible refine (dates_Parts.calls t296 t302 t303 t304 t305 _ A7.out).mono ?_); rintro e w12 ⟨rfl, hb⟩; refine ⟨_, rfl, ?_⟩; have n0_ := Aside0.mk (below_step (by repeat (first | (with_reducible first | exact HB.out | apply below_alloc | apply pw_below_drewN | apply below_drew1) | exact HB.out)) hb); clear HB; have HB := n0_; clear n0_; (try clear hb); (try clear hb2); (try clear hk); (try clear hi)))
    (try simp only [Act.put, List.setIfInBounds_toArray, List.set_cons_zero, List.set_cons_succ])
    go_cut [78] (fun v78 wc => ∃ (kq : Nat) (x78_7 : Bool), v78 = .bool x78_7 ∧ Aside0 (foolscaplaw11_DatesThere.j0 kq a0 a1 t293 x78_7 = some r) ∧ Aside0 (kq ≤ k) ∧ Aside0 (Below w.heap.size w wc))
    case first =>
      have H := HC8.out
      clear HC8
      by_cases c13 : t297 = 0
      · rw [if_pos c13] at H
        have c13b0 : (t297 == 0) = true := beq_iff_eq.mpr c13
        have c13b1 : (t297 != 0) = false := bne_eq_false_iff_eq.mpr c13
        clear c13
        (first | rw [c13b0] | (simp only [i64_w, i32_w]; rw [c13b0]) | skip)
        by_cases c14 : t298 = t302
        · rw [if_pos c14] at H
          have c14b0 : (t298 == t302) = true := beq_iff_eq.mpr c14
          have c14b1 : (t298 != t302) = false := bne_eq_false_iff_eq.mpr c14
          clear c14
          by_cases c15 : t299 = t303
          · rw [if_pos c15] at H
            have c15b0 : (t299 == t303) = true := beq_iff_eq.mpr c15
            have c15b1 : (t299 != t303) = false := bne_eq_false_iff_eq.mpr c15
            clear c15
            by_cases c16 : t304 > t300
            · rw [if_pos c16] at H
              have c16b0 : decide (t300 < t304) = true := decide_eq_true c16
              clear c16
              have H' := Aside0.mk H
              clear H
              go_wp2
              go_meet
              case rel => exact ⟨_, (true), (by first | rfl | (simp; done) | (simp [*]; done)), H', ⟨by first | omega | exact Nat.le_refl _⟩, ⟨by repeat (first | (with_reducible first | exact HB.out | apply below_alloc | apply pw_below_drewN | apply below_drew1) | exact HB.out)⟩⟩
            · rw [if_neg c16] at H
              have c16b0 : decide (t300 < t304) = false := decide_eq_false c16
              clear c16
              by_cases c17 : t300 ≤ 28
              · rw [if_pos c17] at H
                have c17b0 : decide (t300 ≤ 28) = true := decide_eq_true c17
                clear c17
                have H' := Aside0.mk H
                clear H
                go_wp2
                go_meet
                case rel => exact ⟨_, ((t296 != a0)), (by first | rfl | (simp; done) | (simp [*]; done)), H', ⟨by first | omega | exact Nat.le_refl _⟩, ⟨by repeat (first | (with_reducible first | exact HB.out | apply below_alloc | apply pw_below_drewN | apply below_drew1) | exact HB.out)⟩⟩
              · rw [if_neg c17] at H
                have c17b0 : decide (t300 ≤ 28) = false := decide_eq_false c17
                clear c17
                have H' := Aside0.mk H
                clear H
                go_wp2
                go_meet
                case rel => exact ⟨_, (false), (by first | rfl | (simp; done) | (simp [*]; done)), H', ⟨by first | omega | exact Nat.le_refl _⟩, ⟨by repeat (first | (with_reducible first | exact HB.out | apply below_alloc | apply pw_below_drewN | apply below_drew1) | exact HB.out)⟩⟩
          · rw [if_neg c15] at H
            have c15b0 : (t299 == t303) = false := beq_eq_false_iff_ne.mpr c15
            have c15b1 : (t299 != t303) = true := bne_iff_ne.mpr c15
            have H' := Aside0.mk H
            clear H
            go_wp2
            go_meet
            case rel => exact ⟨_, (true), (by first | rfl | (simp; done) | (simp [*]; done)), H', ⟨by first | omega | exact Nat.le_refl _⟩, ⟨by repeat (first | (with_reducible first | exact HB.out | apply below_alloc | apply pw_below_drewN | apply below_drew1) | exact HB.out)⟩⟩
        · rw [if_neg c14] at H
          have c14b0 : (t298 == t302) = false := beq_eq_false_iff_ne.mpr c14
          have c14b1 : (t298 != t302) = true := bne_iff_ne.mpr c14
          have H' := Aside0.mk H
          clear H
          go_wp2
          go_meet
          case rel => exact ⟨_, (true), (by first | rfl | (simp; done) | (simp [*]; done)), H', ⟨by first | omega | exact Nat.le_refl _⟩, ⟨by repeat (first | (with_reducible first | exact HB.out | apply below_alloc | apply pw_below_drewN | apply below_drew1) | exact HB.out)⟩⟩
      · rw [if_neg c13] at H
        have c13b0 : (t297 == 0) = false := beq_eq_false_iff_ne.mpr c13
        have c13b1 : (t297 != 0) = true := bne_iff_ne.mpr c13
        (first | rw [c13b0] | (simp only [i64_w, i32_w]; rw [c13b0]) | skip)
        have H' := Aside0.mk H
        clear H
        go_wp2
        go_meet
        case rel => exact ⟨_, (true), (by first | rfl | (simp; done) | (simp [*]; done)), H', ⟨by first | omega | exact Nat.le_refl _⟩, ⟨by repeat (first | (with_reducible first | exact HB.out | apply below_alloc | apply pw_below_drewN | apply below_drew1) | exact HB.out)⟩⟩
    case rest =>
      clear HC8
      try clear c1
      try clear c2
      try clear p2
      try clear c4
      try clear c4b0
      try clear c4b1
      try clear p6
      try clear c11
      try clear c13
      try clear c13b0
      try clear c13b1
      try clear c14
      try clear c14b0
      try clear c14b1
      try clear c15
      try clear c15b0
      try clear c15b1
      try clear c16
      try clear c16b0
      try clear c17
      try clear c17b0
      obtain ⟨kq, x78_7, rfl, HA, HJ7, HB⟩ := hcut
      cases kq with
      | zero => exact absurd HA.out (by simp [foolscaplaw11_DatesThere.j0])
      | succ kj7 =>
        have H := HA.out
        clear HA
        simp only [foolscaplaw11_DatesThere.j0] at H
        by_cases c18 : x78_7 = true
        · subst c18
          have H1 : (some false) = some r := by rw [if_pos rfl] at H; exact H
          clear H
          have H := H1
          clear H1
          obtain rfl := Option.some.inj H
          go_wp2
          go_ret
          exact ⟨by first | rfl | (simp [errW_none, errW_some] <;> rfl) | (simp [*, errW_none, errW_some] <;> rfl), by repeat (first | (with_reducible first | exact HB.out | apply below_alloc | apply pw_below_drewN | apply below_drew1) | exact HB.out)⟩
        · replace c18 := Bool.eq_false_iff.mpr c18
          subst c18
          have H1 : (if a1 ≥ 120000 then ((foolscaplaw11_lives.f kj7).bind fun t306 => (some t306)) else ((dates_Months.f kj7 a0 (wrap64 (a1 + 1))).bind fun bt307 => (if bt307.2 = 0 then (if bt307.1 > t293 then ((foolscaplaw11_lives.f kj7).bind fun t309 => (some t309)) else (some false)) else ((foolscaplaw11_lives.f kj7).bind fun t310 => (some t310))))) = some r := by rw [if_neg (show ¬ (false = true) by decide)] at H; exact H
          clear H
          have H := H1
          clear H1
          by_cases c19 : a1 ≥ 120000
          · rw [if_pos c19] at H
            have c19b0 : decide (120000 ≤ a1) = true := decide_eq_true c19
            clear c19
            replace H := Option.bind_eq_some_iff.mp H
            obtain ⟨t306, A200, H⟩ := H
            replace H : (some t306) = some r := H
            have A20 := Aside0.mk A200
            clear A200
            obtain rfl := Option.some.inj H
            go_wp2_with (first | ((with_reducible refine gate_callee (f := 16) rfl ?_); refine goesL_ (some 81) rfl rfl Tryd.func16 (by kernel_rfl) rfl #[] rfl (by (try simp only [List.map_toArray, List.map_cons, List.map_nil]); first | done | rfl | (simp only [List.length_drop, List.length_take]; rfl) | (simp only [ByteArray.size_append, Int.natCast_add]; done) | (simp only [ByteArray.size_append, Int.natCast_add]; rfl) | (simp only [Array.mk.injEq, List.cons.injEq, Value.int.injEq, true_and, and_true]; (try simp only [mx, mn, wrap64] at *); omega)) ?_; (with_reducible refine (foolscaplaw11_lives.calls kj7  t306 _ A20.out (LaidAt hL0 (by repeat (first | (with_reducible first | exact HB.out | apply below_alloc | apply pw_below_drewN | apply below_drew1) | exact HB.out)))).mono ?_); rintro e w21 ⟨rfl, hb⟩; refine ⟨_, rfl, ?_⟩; have n0_ := Aside0.mk (below_step (by repeat (first | (with_reducible first | exact HB.out | apply below_alloc | apply pw_below_drewN | apply below_drew1) | exact HB.out)) hb); clear HB; have HB := n0_; clear n0_; (try clear hb); (try clear hb2); (try clear hk); (try clear hi)))
            go_ret
            exact ⟨by first | rfl | (simp [errW_none, errW_some] <;> rfl) | (simp [*, errW_none, errW_some] <;> rfl), by repeat (first | (with_reducible first | exact HB.out | apply below_alloc | apply pw_below_drewN | apply below_drew1) | exact HB.out)⟩
          · rw [if_neg c19] at H
            have c19b0 : decide (120000 ≤ a1) = false := decide_eq_false c19
            clear c19
            replace H := Option.bind_eq_some_iff.mp H
            obtain ⟨⟨t307, t308⟩, A220, H⟩ := H
            replace H : (if t308 = 0 then (if t307 > t293 then ((foolscaplaw11_lives.f kj7).bind fun t309 => (some t309)) else (some false)) else ((foolscaplaw11_lives.f kj7).bind fun t310 => (some t310))) = some r := H
            have A22 := Aside0.mk A220
            clear A220
            by_cases c23 : t308 = 0
            · rw [if_pos c23] at H
              have c23b0 : (t308 == 0) = true := beq_iff_eq.mpr c23
              have c23b1 : (t308 != 0) = false := bne_eq_false_iff_eq.mpr c23
              clear c23
              by_cases c24 : t307 > t293
              · rw [if_pos c24] at H
                have c24b0 : decide (t293 < t307) = true := decide_eq_true c24
                clear c24
                replace H := Option.bind_eq_some_iff.mp H
                obtain ⟨t309, A250, H⟩ := H
                replace H : (some t309) = some r := H
                have A25 := Aside0.mk A250
                clear A250
                obtain rfl := Option.some.inj H
                go_wp2_with (first | ((with_reducible refine gate_callee (f := 17) rfl ?_); refine goesL_ (some 86) rfl rfl Tryd.func17 (by kernel_rfl) rfl #[.int .i64 a0, .int .i64 (wrap64 (a1 + 1))] rfl (by (try simp only [List.map_toArray, List.map_cons, List.map_nil]); first | done | rfl | (simp only [List.length_drop, List.length_take]; rfl) | (simp only [ByteArray.size_append, Int.natCast_add]; done) | (simp only [ByteArray.size_append, Int.natCast_add]; rfl) | (simp only [Array.mk.injEq, List.cons.injEq, Value.int.injEq, true_and, and_true]; (try simp only [mx, mn, wrap64] at *); omega)) ?_; (with_reducible refine (dates_Months.calls kj7 a0 (wrap64 (a1 + 1)) t307 t308 _ A22.out).mono ?_); rintro e w26 ⟨rfl, hb⟩; refine ⟨_, rfl, ?_⟩; have n0_ := Aside0.mk (below_step (by repeat (first | (with_reducible first | exact HB.out | apply below_alloc | apply pw_below_drewN | apply below_drew1) | exact HB.out)) hb); clear HB; have HB := n0_; clear n0_; (try clear hb); (try clear hb2); (try clear hk); (try clear hi)) | (go_at_call 16; (with_reducible refine (foolscaplaw11_lives.calls kj7  t309 _ A25.out (LaidAt hL0 (by repeat (first | (with_reducible first | exact HB.out | apply below_alloc | apply pw_below_drewN | apply below_drew1) | exact HB.out)))).mono ?_); rintro e w27 ⟨rfl, hb⟩; have n0_ := Aside0.mk (below_step (by repeat (first | (with_reducible first | exact HB.out | apply below_alloc | apply pw_below_drewN | apply below_drew1) | exact HB.out)) hb); clear HB; have HB := n0_; clear n0_; (try clear hb); (try clear hb2); (try clear hk); (try clear hi)))
                go_ret
                exact ⟨by first | rfl | (simp [errW_none, errW_some] <;> rfl) | (simp [*, errW_none, errW_some] <;> rfl), by repeat (first | (with_reducible first | exact HB.out | apply below_alloc | apply pw_below_drewN | apply below_drew1) | exact HB.out)⟩
              · rw [if_neg c24] at H
                have c24b0 : decide (t293 < t307) = false := decide_eq_false c24
                clear c24
                obtain rfl := Option.some.inj H
                go_wp2_with (first | ((with_reducible refine gate_callee (f := 17) rfl ?_); refine goesL_ (some 86) rfl rfl Tryd.func17 (by kernel_rfl) rfl #[.int .i64 a0, .int .i64 (wrap64 (a1 + 1))] rfl (by (try simp only [List.map_toArray, List.map_cons, List.map_nil]); first | done | rfl | (simp only [List.length_drop, List.length_take]; rfl) | (simp only [ByteArray.size_append, Int.natCast_add]; done) | (simp only [ByteArray.size_append, Int.natCast_add]; rfl) | (simp only [Array.mk.injEq, List.cons.injEq, Value.int.injEq, true_and, and_true]; (try simp only [mx, mn, wrap64] at *); omega)) ?_; (with_reducible refine (dates_Months.calls kj7 a0 (wrap64 (a1 + 1)) t307 t308 _ A22.out).mono ?_); rintro e w28 ⟨rfl, hb⟩; refine ⟨_, rfl, ?_⟩; have n0_ := Aside0.mk (below_step (by repeat (first | (with_reducible first | exact HB.out | apply below_alloc | apply pw_below_drewN | apply below_drew1) | exact HB.out)) hb); clear HB; have HB := n0_; clear n0_; (try clear hb); (try clear hb2); (try clear hk); (try clear hi)))
                go_ret
                exact ⟨by first | rfl | (simp [errW_none, errW_some] <;> rfl) | (simp [*, errW_none, errW_some] <;> rfl), by repeat (first | (with_reducible first | exact HB.out | apply below_alloc | apply pw_below_drewN | apply below_drew1) | exact HB.out)⟩
            · rw [if_neg c23] at H
              have c23b0 : (t308 == 0) = false := beq_eq_false_iff_ne.mpr c23
              have c23b1 : (t308 != 0) = true := bne_iff_ne.mpr c23
              replace H := Option.bind_eq_some_iff.mp H
              obtain ⟨t310, A290, H⟩ := H
              replace H : (some t310) = some r := H
              have A29 := Aside0.mk A290
              clear A290
              obtain rfl := Option.some.inj H
              go_wp2_with (first | ((with_reducible refine gate_callee (f := 17) rfl ?_); refine goesL_ (some 86) rfl rfl Tryd.func17 (by kernel_rfl) rfl #[.int .i64 a0, .int .i64 (wrap64 (a1 + 1))] rfl (by (try simp only [List.map_toArray, List.map_cons, List.map_nil]); first | done | rfl | (simp only [List.length_drop, List.length_take]; rfl) | (simp only [ByteArray.size_append, Int.natCast_add]; done) | (simp only [ByteArray.size_append, Int.natCast_add]; rfl) | (simp only [Array.mk.injEq, List.cons.injEq, Value.int.injEq, true_and, and_true]; (try simp only [mx, mn, wrap64] at *); omega)) ?_; (with_reducible refine (dates_Months.calls kj7 a0 (wrap64 (a1 + 1)) t307 t308 _ A22.out).mono ?_); rintro e w30 ⟨rfl, hb⟩; refine ⟨_, rfl, ?_⟩; have n0_ := Aside0.mk (below_step (by repeat (first | (with_reducible first | exact HB.out | apply below_alloc | apply pw_below_drewN | apply below_drew1) | exact HB.out)) hb); clear HB; have HB := n0_; clear n0_; (try clear hb); (try clear hb2); (try clear hk); (try clear hi)) | (go_at_call 16; (with_reducible refine (foolscaplaw11_lives.calls kj7  t310 _ A29.out (LaidAt hL0 (by repeat (first | (with_reducible first | exact HB.out | apply below_alloc | apply pw_below_drewN | apply below_drew1) | exact HB.out)))).mono ?_); rintro e w31 ⟨rfl, hb⟩; have n0_ := Aside0.mk (below_step (by repeat (first | (with_reducible first | exact HB.out | apply below_alloc | apply pw_below_drewN | apply below_drew1) | exact HB.out)) hb); clear HB; have HB := n0_; clear n0_; (try clear hb); (try clear hb2); (try clear hk); (try clear hi)))
              go_ret
              exact ⟨by first | rfl | (simp [errW_none, errW_some] <;> rfl) | (simp [*, errW_none, errW_some] <;> rfl), by repeat (first | (with_reducible first | exact HB.out | apply below_alloc | apply pw_below_drewN | apply below_drew1) | exact HB.out)⟩
  · rw [if_neg c4] at H
    have c4b0 : (t294 == 0) = false := beq_eq_false_iff_ne.mpr c4
    have c4b1 : (t294 != 0) = true := bne_iff_ne.mpr c4
    by_cases c32 : t293 = 0
    · rw [if_pos c32] at H
      have c32b0 : (t293 == 0) = true := beq_iff_eq.mpr c32
      have c32b1 : (t293 != 0) = false := bne_eq_false_iff_eq.mpr c32
      clear c32
      replace H := Option.bind_eq_some_iff.mp H
      obtain ⟨t295, A330, H⟩ := H
      replace H : (some t295) = some r := H
      have A33 := Aside0.mk A330
      clear A330
      obtain rfl := Option.some.inj H
      go_enter Tryd.func11, Tryd.ntmps11
      go_wp2_with (first | ((with_reducible refine gate_callee (f := 17) rfl ?_); refine goesL_ (some 22) rfl rfl Tryd.func17 (by kernel_rfl) rfl #[.int .i64 a0, .int .i64 a1] rfl (by (try simp only [List.map_toArray, List.map_cons, List.map_nil]); first | done | rfl | (simp only [List.length_drop, List.length_take]; rfl) | (simp only [ByteArray.size_append, Int.natCast_add]; done) | (simp only [ByteArray.size_append, Int.natCast_add]; rfl) | (simp only [Array.mk.injEq, List.cons.injEq, Value.int.injEq, true_and, and_true]; (try simp only [mx, mn, wrap64] at *); omega)) ?_; (with_reducible refine (dates_Months.calls k a0 a1 t293 t294 _ A3.out).mono ?_); rintro e w34 ⟨rfl, hb⟩; refine ⟨_, rfl, ?_⟩; have n0_ := Aside0.mk (below_step (by repeat (first | (with_reducible first | exact HB.out | apply below_alloc | apply pw_below_drewN | apply below_drew1) | exact HB.out)) hb); clear HB; have HB := n0_; clear n0_; (try clear hb); (try clear hb2); (try clear hk); (try clear hi)) | (go_at_call 16; (with_reducible refine (foolscaplaw11_lives.calls k  t295 _ A33.out (LaidAt hL0 (by repeat (first | (with_reducible first | exact HB.out | apply below_alloc | apply pw_below_drewN | apply below_drew1) | exact HB.out)))).mono ?_); rintro e w35 ⟨rfl, hb⟩; have n0_ := Aside0.mk (below_step (by repeat (first | (with_reducible first | exact HB.out | apply below_alloc | apply pw_below_drewN | apply below_drew1) | exact HB.out)) hb); clear HB; have HB := n0_; clear n0_; (try clear hb); (try clear hb2); (try clear hk); (try clear hi)))
      go_ret
      exact ⟨by first | rfl | (simp [errW_none, errW_some] <;> rfl) | (simp [*, errW_none, errW_some] <;> rfl), by repeat (first | (with_reducible first | exact HB.out | apply below_alloc | apply pw_below_drewN | apply below_drew1) | exact HB.out)⟩
    · rw [if_neg c32] at H
      have c32b0 : (t293 == 0) = false := beq_eq_false_iff_ne.mpr c32
      have c32b1 : (t293 != 0) = true := bne_iff_ne.mpr c32
      obtain rfl := Option.some.inj H
      go_enter Tryd.func11, Tryd.ntmps11
      go_wp2_with (first | ((with_reducible refine gate_callee (f := 17) rfl ?_); refine goesL_ (some 22) rfl rfl Tryd.func17 (by kernel_rfl) rfl #[.int .i64 a0, .int .i64 a1] rfl (by (try simp only [List.map_toArray, List.map_cons, List.map_nil]); first | done | rfl | (simp only [List.length_drop, List.length_take]; rfl) | (simp only [ByteArray.size_append, Int.natCast_add]; done) | (simp only [ByteArray.size_append, Int.natCast_add]; rfl) | (simp only [Array.mk.injEq, List.cons.injEq, Value.int.injEq, true_and, and_true]; (try simp only [mx, mn, wrap64] at *); omega)) ?_; (with_reducible refine (dates_Months.calls k a0 a1 t293 t294 _ A3.out).mono ?_); rintro e w36 ⟨rfl, hb⟩; refine ⟨_, rfl, ?_⟩; have n0_ := Aside0.mk (below_step (by repeat (first | (with_reducible first | exact HB.out | apply below_alloc | apply pw_below_drewN | apply below_drew1) | exact HB.out)) hb); clear HB; have HB := n0_; clear n0_; (try clear hb); (try clear hb2); (try clear hk); (try clear hi)))
      go_ret
      exact ⟨by first | rfl | (simp [errW_none, errW_some] <;> rfl) | (simp [*, errW_none, errW_some] <;> rfl), by repeat (first | (with_reducible first | exact HB.out | apply below_alloc | apply pw_below_drewN | apply below_drew1) | exact HB.out)⟩

end Go.Proofs.YtiloagepldeeeaaDoor.Pr
