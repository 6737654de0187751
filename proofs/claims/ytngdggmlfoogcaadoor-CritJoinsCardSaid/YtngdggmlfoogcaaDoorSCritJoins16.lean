/-
  What the law CritJoins leans on, out of the texts that were printed and written for this seat: only what its proof mentions (gathered by a program of the author's).
-/
import Derived.Test.YtngdggmlfoogcaaDoorSCritJoins4
import Derived.Test.YtngdggmlfoogcaaDoorSCritJoins6
import Derived.Test.YtngdggmlfoogcaaDoorSCritJoins15
section
namespace Go.Proofs.YtngdggmlfoogcaaDoor.Pr
open Go.RowKit Go.Proofs.YtngdggmlfoogcaaDoorW.PrintWords Go.Proofs.YtngdggmlfoogcaaDoorW.PrintLast Go.Proofs.YtngdggmlfoogcaaDoorW.PrintMore
attribute [local go_sem] max2_int min2_int max_two min_two max_three min_three max_four min_four   -- for this text's walks alone
set_option linter.unusedVariables false
set_option linter.unusedSimpArgs false
mutual
def foolscaplaw13_CritJoins.j0 : Nat → ByteArray → ByteArray → ByteArray → ByteArray → ByteArray → Bool → Option (Bool)
  | 0, _, _, _, _, _, _ => none
  | k + 1, x0, x1, x2, x3, x4, x46 => if x46 = true then ((foolscaplaw13_lives.f k).bind fun t308 => (some t308)) else ((crit_Like.f k x0 x2).bind fun t309 => (if t309 = true then ((crit_Like.f k x1 x3).bind fun t310 => (foolscaplaw13_CritJoins.j1 k x0 x1 x2 x3 x4 (!t310))) else (foolscaplaw13_CritJoins.j1 k x0 x1 x2 x3 x4 true)))
def foolscaplaw13_CritJoins.j1 : Nat → ByteArray → ByteArray → ByteArray → ByteArray → ByteArray → Bool → Option (Bool)
  | 0, _, _, _, _, _, _ => none
  | k + 1, x0, x1, x2, x3, x4, x57 => if x57 = true then ((foolscaplaw13_lives.f k).bind fun t311 => (some t311)) else (if x0.size + x1.size ≤ 9223372036854775807 then (if x2.size + x3.size ≤ 9223372036854775807 then ((crit_Like.f k (x0 ++ x1) (x2 ++ x3)).bind fun t312 => (if t312 = true then (if x0.size + 1 ≤ 9223372036854775807 then (if (x0 ++ (⟨#[42]⟩ : ByteArray)).size + x1.size ≤ 9223372036854775807 then (if x2.size + x4.size ≤ 9223372036854775807 then (if (x2 ++ x4).size + x3.size ≤ 9223372036854775807 then ((crit_Like.f k ((x0 ++ (⟨#[42]⟩ : ByteArray)) ++ x1) ((x2 ++ x4) ++ x3)).bind fun t313 => (if t313 = true then ((foolscaplaw13_lives.f k).bind fun t314 => (some t314)) else (none))) else (none)) else (none)) else (none)) else (none)) else (none))) else (none)) else (none))
end
def foolscaplaw13_CritJoins.f (k : Nat) (a0 : ByteArray) (a1 : ByteArray) (a2 : ByteArray) (a3 : ByteArray) (a4 : ByteArray) : Option (Bool) := if (a0.size : Int) > 60 then (foolscaplaw13_CritJoins.j0 k a0 a1 a2 a3 a4 true) else (if (a1.size : Int) > 60 then (foolscaplaw13_CritJoins.j0 k a0 a1 a2 a3 a4 true) else (if (a2.size : Int) > 60 then (foolscaplaw13_CritJoins.j0 k a0 a1 a2 a3 a4 true) else (if (a3.size : Int) > 60 then (foolscaplaw13_CritJoins.j0 k a0 a1 a2 a3 a4 true) else (if (a4.size : Int) > 60 then (foolscaplaw13_CritJoins.j0 k a0 a1 a2 a3 a4 true) else (if (a0.size : Int) > 0 then (if 0 ≤ (wrap64 ((a0.size : Int) - 1)) then (if (wrap64 ((a0.size : Int) - 1)) < (a0.size : Int) then (foolscaplaw13_CritJoins.j0 k a0 a1 a2 a3 a4 ((bt a0 (wrap64 ((a0.size : Int) - 1))) == 126)) else (none)) else (none)) else (foolscaplaw13_CritJoins.j0 k a0 a1 a2 a3 a4 false))))))
set_option maxHeartbeats 8000000 in
set_option maxRecDepth 100000 in
theorem foolscaplaw13_CritJoins.calls (k : Nat) (a0 : ByteArray) (a1 : ByteArray) (a2 : ByteArray) (a3 : ByteArray) (a4 : ByteArray) (r : Bool) (w : World) (h : foolscaplaw13_CritJoins.f k a0 a1 a2 a3 a4 = some r) :
    Calls Tryd.prog 6 #[.string a0, .string a1, .string a2, .string a3, .string a4] w fun e w' => e = .returned (.bool r) ∧ Below w.heap.size w w' := by
  have HB := Aside0.mk (Below.refl w.heap.size w)
  have H : (if (a0.size : Int) > 60 then (foolscaplaw13_CritJoins.j0 k a0 a1 a2 a3 a4 true) else (if (a1.size : Int) > 60 then (foolscaplaw13_CritJoins.j0 k a0 a1 a2 a3 a4 true) else (if (a2.size : Int) > 60 then (foolscaplaw13_CritJoins.j0 k a0 a1 a2 a3 a4 true) else (if (a3.size : Int) > 60 then (foolscaplaw13_CritJoins.j0 k a0 a1 a2 a3 a4 true) else (if (a4.size : Int) > 60 then (foolscaplaw13_CritJoins.j0 k a0 a1 a2 a3 a4 true) else (if (a0.size : Int) > 0 then (if 0 ≤ (wrap64 ((a0.size : Int) - 1)) then (if (wrap64 ((a0.size : Int) - 1)) < (a0.size : Int) then (foolscaplaw13_CritJoins.j0 k a0 a1 a2 a3 a4 ((bt a0 (wrap64 ((a0.size : Int) - 1))) == 126)) else (none)) else (none)) else (foolscaplaw13_CritJoins.j0 k a0 a1 a2 a3 a4 false))))))) = some r := h
  clear h
  have HC6 := Aside0.mk H
  clear H
  go_enter Tryd.func6, Tryd.ntmps6
  go_upto_region 1 with (fail)
  go_cut [46] (fun v46 wc => ∃ (kq : Nat) (x46_5 : Bool), v46 = .bool x46_5 ∧ Aside0 (foolscaplaw13_CritJoins.j0 kq a0 a1 a2 a3 a4 x46_5 = some r) ∧ Aside0 (kq ≤ k) ∧ Aside0 (Below w.heap.size w wc))
  case first =>
    have H := HC6.out
    clear HC6
    by_cases c7 : (a0.size : Int) > 60
    · rw [if_pos c7] at H
      have c7b0 : decide (60 < (a0.size : Int)) = true := decide_eq_true c7
      have c7b1 : decide (60 < a0.size) = true := decide_eq_true (by omega)
      clear c7
      (first | rw [c7b0] | (simp only [i64_w, i32_w]; rw [c7b0]) | skip)
      have H' := Aside0.mk H
      clear H
      go_wp2
      go_meet
      case rel => exact ⟨_, (true), (by first | rfl | (simp; done) | (simp [*]; done)), H', ⟨by first | omega | exact Nat.le_refl _⟩, ⟨by repeat (first | (with_reducible first | exact HB.out | apply below_alloc | apply pw_below_drewN | apply below_drew1) | exact HB.out)⟩⟩
    · rw [if_neg c7] at H
      have c7b0 : decide (60 < (a0.size : Int)) = false := decide_eq_false c7
      have c7b1 : decide (60 < a0.size) = false := decide_eq_false (by omega)
      clear c7
      (first | rw [c7b0] | (simp only [i64_w, i32_w]; rw [c7b0]) | skip)
      by_cases c8 : (a1.size : Int) > 60
      · rw [if_pos c8] at H
        have c8b0 : decide (60 < (a1.size : Int)) = true := decide_eq_true c8
        have c8b1 : decide (60 < a1.size) = true := decide_eq_true (by omega)
        clear c8
        have H' := Aside0.mk H
        clear H
        go_wp2
        go_meet
        case rel => exact ⟨_, (true), (by first | rfl | (simp; done) | (simp [*]; done)), H', ⟨by first | omega | exact Nat.le_refl _⟩, ⟨by repeat (first | (with_reducible first | exact HB.out | apply below_alloc | apply pw_below_drewN | apply below_drew1) | exact HB.out)⟩⟩
      · rw [if_neg c8] at H
        have c8b0 : decide (60 < (a1.size : Int)) = false := decide_eq_false c8
        have c8b1 : decide (60 < a1.size) = false := decide_eq_false (by omega)
        clear c8
        by_cases c9 : (a2.size : Int) > 60
        · rw [if_pos c9] at H
          have c9b0 : decide (60 < (a2.size : Int)) = true := decide_eq_true c9
          have c9b1 : decide (60 < a2.size) = true := decide_eq_true (by omega)
          clear c9
          have H' := Aside0.mk H
          clear H
          go_wp2
          go_meet
          case rel => exact ⟨_, (true), (by first | rfl | (simp; done) | (simp [*]; done)), H', ⟨by first | omega | exact Nat.le_refl _⟩, ⟨by repeat (first | (with_reducible first | exact HB.out | apply below_alloc | apply pw_below_drewN | apply below_drew1) | exact HB.out)⟩⟩
        · rw [if_neg c9] at H
          have c9b0 : decide (60 < (a2.size : Int)) = false := decide_eq_false c9
          have c9b1 : decide (60 < a2.size) = false := decide_eq_false (by omega)
          clear c9
          by_cases c10 : (a3.size : Int) > 60
          · rw [if_pos c10] at H
            have c10b0 : decide (60 < (a3.size : Int)) = true := decide_eq_true c10
            have c10b1 : decide (60 < a3.size) = true := decide_eq_true (by omega)
            clear c10
            have H' := Aside0.mk H
            clear H
            go_wp2
            go_meet
            case rel => exact ⟨_, (true), (by first | rfl | (simp; done) | (simp [*]; done)), H', ⟨by first | omega | exact Nat.le_refl _⟩, ⟨by repeat (first | (with_reducible first | exact HB.out | apply below_alloc | apply pw_below_drewN | apply below_drew1) | exact HB.out)⟩⟩
          · rw [if_neg c10] at H
            have c10b0 : decide (60 < (a3.size : Int)) = false := decide_eq_false c10
            have c10b1 : decide (60 < a3.size) = false := decide_eq_false (by omega)
            clear c10
            by_cases c11 : (a4.size : Int) > 60
            · rw [if_pos c11] at H
              have c11b0 : decide (60 < (a4.size : Int)) = true := decide_eq_true c11
              have c11b1 : decide (60 < a4.size) = true := decide_eq_true (by omega)
              clear c11
              have H' := Aside0.mk H
              clear H
              go_wp2
              go_meet
              case rel => exact ⟨_, (true), (by first | rfl | (simp; done) | (simp [*]; done)), H', ⟨by first | omega | exact Nat.le_refl _⟩, ⟨by repeat (first | (with_reducible first | exact HB.out | apply below_alloc | apply pw_below_drewN | apply below_drew1) | exact HB.out)⟩⟩
            · rw [if_neg c11] at H
              have c11b0 : decide (60 < (a4.size : Int)) = false := decide_eq_false c11
              have c11b1 : decide (60 < a4.size) = false := decide_eq_false (by omega)
              clear c11
              by_cases c12 : (a0.size : Int) > 0
              · rw [if_pos c12] at H
                have c12b0 : decide (0 < (a0.size : Int)) = true := decide_eq_true c12
                have c12b1 : decide (0 < a0.size) = true := decide_eq_true (by omega)
                clear c12
                obtain ⟨ji13, hji13⟩ : ∃ j_ : Int, (wrap64 ((a0.size : Int) - 1)) = j_ := ⟨_, rfl⟩
                replace H : (if 0 ≤ (ji13) then (if (ji13) < (a0.size : Int) then (foolscaplaw13_CritJoins.j0 k a0 a1 a2 a3 a4 ((bt a0 (ji13)) == 126)) else (none)) else (none)) = some r := by first | (rw [hji13] at H; exact H) | (simp only [hji13] at H ⊢; exact H)
                have hji13w : (IntKind.i64.wrap ((a0.size : Int) - 1)) = ji13 := (i64_w _).trans hji13
                by_cases c14 : 0 ≤ (ji13)
                · rw [if_pos c14] at H
                  have c14b0 : decide (0 ≤ (ji13)) = true := decide_eq_true c14
                  clear c14
                  by_cases c15 : (ji13) < (a0.size : Int)
                  · rw [if_pos c15] at H
                    have c15b0 : decide ((ji13) < (a0.size : Int)) = true := decide_eq_true c15
                    clear c15
                    have H' := Aside0.mk H
                    clear H
                    have p16 : 0 ≤ ((ji13) : Int) := of_decide_eq_true (by first | (with_reducible assumption) | assumption)
                    have q16 : (ji13) < (a0.size : Int) := of_decide_eq_true (by first | (with_reducible assumption) | assumption)
                    have hx16 := bt_at a0 (ji13)
                    replace p16 := eq_true p16
                    replace q16 := eq_true q16
                    go_wp2
                    go_meet
                    case rel => exact ⟨_, (((bt a0 (ji13)) == 126)), (by first | rfl | (simp; done) | (simp only [← hji13] <;> (first | rfl | simp)) | (simp [*]; done)), H', ⟨by first | omega | exact Nat.le_refl _⟩, ⟨by repeat (first | (with_reducible first | exact HB.out | apply below_alloc | apply pw_below_drewN | apply below_drew1) | exact HB.out)⟩⟩
                  · rw [if_neg c15] at H
                    exact absurd H (by simp)
                · rw [if_neg c14] at H
                  exact absurd H (by simp)
              · rw [if_neg c12] at H
                have c12b0 : decide (0 < (a0.size : Int)) = false := decide_eq_false c12
                have c12b1 : decide (0 < a0.size) = false := decide_eq_false (by omega)
                clear c12
                have H' := Aside0.mk H
                clear H
                go_wp2
                go_meet
                case rel => exact ⟨_, (false), (by first | rfl | (simp; done) | (simp [*]; done)), H', ⟨by first | omega | exact Nat.le_refl _⟩, ⟨by repeat (first | (with_reducible first | exact HB.out | apply below_alloc | apply pw_below_drewN | apply below_drew1) | exact HB.out)⟩⟩
  case rest =>
    clear HC6
    try clear c1
    try clear p1
    try clear q1
    try clear hx1
    try clear p2
    try clear c6
    try clear p6
    try clear c7
    try clear c7b0
    try clear c7b1
    try clear c8
    try clear c8b0
    try clear c8b1
    try clear c9
    try clear c9b0
    try clear c9b1
    try clear c10
    try clear c10b0
    try clear c10b1
    try clear c11
    try clear c11b0
    try clear c11b1
    try clear c12
    try clear c12b0
    try clear c12b1
    try clear c14
    try clear c14b0
    try clear c15
    try clear c15b0
    try clear p16
    try clear q16
    try clear hx16
    try clear p16
    try clear q16
    obtain ⟨kq, x46_5, rfl, HA, HJ5, HB⟩ := hcut
    cases kq with
    | zero => exact absurd HA.out (by simp [foolscaplaw13_CritJoins.j0])
    | succ kj5 =>
      have H := HA.out
      clear HA
      simp only [foolscaplaw13_CritJoins.j0] at H
      by_cases c17 : x46_5 = true
      · subst c17
        have H1 : ((foolscaplaw13_lives.f kj5).bind fun t308 => (some t308)) = some r := by rw [if_pos rfl] at H; exact H
        clear H
        have H := H1
        clear H1
        replace H := Option.bind_eq_some_iff.mp H
        obtain ⟨t308, A180, H⟩ := H
        replace H : (some t308) = some r := H
        have A18 := Aside0.mk A180
        clear A180
        obtain rfl := Option.some.inj H
        go_wp2_with (first | ((with_reducible refine gate_callee (f := 10) rfl ?_); refine goesL_ (some 47) rfl rfl Tryd.func10 (by kernel_rfl) rfl #[] rfl (by (try simp only [List.map_toArray, List.map_cons, List.map_nil]); first | done | rfl | (simp only [List.length_drop, List.length_take]; rfl) | (simp only [ByteArray.size_append, Int.natCast_add]; done) | (simp only [ByteArray.size_append, Int.natCast_add]; rfl) | (simp only [Array.mk.injEq, List.cons.injEq, Value.int.injEq, true_and, and_true]; (try simp only [mx, mn, wrap64] at *); omega)) ?_; (with_reducible refine (foolscaplaw13_lives.calls kj5  t308 _ A18.out).mono ?_); rintro e w19 ⟨rfl, hb⟩; refine ⟨_, rfl, ?_⟩; have n0_ := Aside0.mk (below_step (by repeat (first | (with_reducible first | exact HB.out | apply below_alloc | apply pw_below_drewN | apply below_drew1) | exact HB.out)) hb); clear HB; have HB := n0_; clear n0_; (try clear hb); (try clear hb2); (try clear hk); (try clear hi)))
        go_ret
        exact ⟨by first | rfl | (simp [errW_none, errW_some] <;> rfl) | (simp [*, errW_none, errW_some] <;> rfl), by repeat (first | (with_reducible first | exact HB.out | apply below_alloc | apply pw_below_drewN | apply below_drew1) | exact HB.out)⟩
      · replace c17 := Bool.eq_false_iff.mpr c17
        subst c17
        have H1 : ((crit_Like.f kj5 a0 a2).bind fun t309 => (if t309 = true then ((crit_Like.f kj5 a1 a3).bind fun t310 => (foolscaplaw13_CritJoins.j1 kj5 a0 a1 a2 a3 a4 (!t310))) else (foolscaplaw13_CritJoins.j1 kj5 a0 a1 a2 a3 a4 true))) = some r := by rw [if_neg (show ¬ (false = true) by decide)] at H; exact H
        clear H
        have H := H1
        clear H1
        have HC20 := Aside0.mk H
        clear H
        go_upto_region 3 with (fail)
        go_cut [57] (fun v57 wc => ∃ (kq : Nat) (x57_19 : Bool), v57 = .bool x57_19 ∧ Aside0 (foolscaplaw13_CritJoins.j1 kq a0 a1 a2 a3 a4 x57_19 = some r) ∧ Aside0 (kq ≤ kj5) ∧ Aside0 (Below w.heap.size w wc))
        case first =>
          have H := HC20.out
          clear HC20
          replace H := Option.bind_eq_some_iff.mp H
          obtain ⟨t309, A210, H⟩ := H
          replace H : (if t309 = true then ((crit_Like.f kj5 a1 a3).bind fun t310 => (foolscaplaw13_CritJoins.j1 kj5 a0 a1 a2 a3 a4 (!t310))) else (foolscaplaw13_CritJoins.j1 kj5 a0 a1 a2 a3 a4 true)) = some r := H
          have A21 := Aside0.mk A210
          clear A210
          by_cases c22 : t309 = true
          · subst c22
            have H1 : ((crit_Like.f kj5 a1 a3).bind fun t310 => (foolscaplaw13_CritJoins.j1 kj5 a0 a1 a2 a3 a4 (!t310))) = some r := by rw [if_pos rfl] at H; exact H
            clear H
            have H := H1
            clear H1
            replace H := Option.bind_eq_some_iff.mp H
            obtain ⟨t310, A230, H⟩ := H
            replace H : (foolscaplaw13_CritJoins.j1 kj5 a0 a1 a2 a3 a4 (!t310)) = some r := H
            have A23 := Aside0.mk A230
            clear A230
            have H' := Aside0.mk H
            clear H
            go_wp2_with (first | ((with_reducible refine gate_callee (f := 11) rfl ?_); refine goesL_ (some 50) rfl rfl Tryd.func11 (by kernel_rfl) rfl #[.string a0, .string a2] rfl (by (try simp only [List.map_toArray, List.map_cons, List.map_nil]); first | done | rfl | (simp only [List.length_drop, List.length_take]; rfl) | (simp only [ByteArray.size_append, Int.natCast_add]; done) | (simp only [ByteArray.size_append, Int.natCast_add]; rfl) | (simp only [Array.mk.injEq, List.cons.injEq, Value.int.injEq, true_and, and_true]; (try simp only [mx, mn, wrap64] at *); omega)) ?_; (with_reducible refine (crit_Like.calls kj5 a0 a2 true _ A21.out).mono ?_); rintro e w24 ⟨rfl, hb⟩; refine ⟨_, rfl, ?_⟩; have n0_ := Aside0.mk (below_step (by repeat (first | (with_reducible first | exact HB.out | apply below_alloc | apply pw_below_drewN | apply below_drew1) | exact HB.out)) hb); clear HB; have HB := n0_; clear n0_; (try clear hb); (try clear hb2); (try clear hk); (try clear hi)) | (go_at_call 11; (with_reducible refine (crit_Like.calls kj5 a1 a3 t310 _ A23.out).mono ?_); rintro e w25 ⟨rfl, hb⟩; have n0_ := Aside0.mk (below_step (by repeat (first | (with_reducible first | exact HB.out | apply below_alloc | apply pw_below_drewN | apply below_drew1) | exact HB.out)) hb); clear HB; have HB := n0_; clear n0_; (try clear hb); (try clear hb2); (try clear hk); (try clear hi)))
            go_meet
            case rel => exact ⟨_, (!t310), (by first | rfl | (simp; done) | (simp [*]; done)), H', ⟨by have := HJ5.out; first | omega | exact Nat.le_refl _⟩, ⟨by repeat (first | (with_reducible first | exact HB.out | apply below_alloc | apply pw_below_drewN | apply below_drew1) | exact HB.out)⟩⟩
          · replace c22 := Bool.eq_false_iff.mpr c22
            subst c22
            have H1 : (foolscaplaw13_CritJoins.j1 kj5 a0 a1 a2 a3 a4 true) = some r := by rw [if_neg (show ¬ (false = true) by decide)] at H; exact H
            clear H
            have H := H1
            clear H1
            have H' := Aside0.mk H
            clear H
            go_wp2_with (first | ((with_reducible refine gate_callee (f := 11) rfl ?_); refine goesL_ (some 50) rfl rfl Tryd.func11 (by kernel_rfl) rfl #[.string a0, .string a2] rfl (by (try simp only [List.map_toArray, List.map_cons, List.map_nil]); first | done | rfl | (simp only [List.length_drop, List.length_take]; rfl) | (simp only [ByteArray.size_append, Int.natCast_add]; done) | (simp only [ByteArray.size_append, Int.natCast_add]; rfl) | (simp only [Array.mk.injEq, List.cons.injEq, Value.int.injEq, true_and, and_true]; (try simp only [mx, mn, wrap64] at *); omega)) ?_; (with_reducible refine (crit_Like.calls kj5 a0 a2 false _ A21.out).mono ?_); rintro e w26 ⟨rfl, hb⟩; refine ⟨_, rfl, ?_⟩; have n0_ := Aside0.mk (below_step (by repeat (first | (with_reducible first | exact HB.out | apply below_alloc | apply pw_below_drewN | apply below_drew1) | exact HB.out)) hb); clear HB; have HB := n0_; clear n0_; (try clear hb); (try clear hb2); (try clear hk); (try clear hi)))
            go_meet
            case rel => exact ⟨_, (true), (by first | rfl | (simp; done) | (simp [*]; done)), H', ⟨by have := HJ5.out; first | omega | exact Nat.le_refl _⟩, ⟨by repeat (first | (with_reducible first | exact HB.out | apply below_alloc | apply pw_below_drewN | apply below_drew1) | exact HB.out)⟩⟩
        case rest =>
          clear HC20
          try clear c1
          try clear p1
          try clear q1
          try clear hx1
          try clear c2
          try clear p2
          try clear c6
          try clear p6
          try clear c7
          try clear c7b0
          try clear c7b1
          try clear c8
          try clear c8b0
          try clear c8b1
          try clear c9
          try clear c9b0
          try clear c9b1
          try clear c10
          try clear c10b0
          try clear c10b1
          try clear c11
          try clear c11b0
          try clear c11b1
          try clear c12
          try clear c12b0
          try clear c12b1
          try clear c14
          try clear c14b0
          try clear c15
          try clear c15b0
          try clear p16
          try clear q16
          try clear hx16
          try clear c17
          try clear c22
          try clear p1
          try clear p16
          try clear p2
          try clear p6
          try clear q1
          try clear q16
          obtain ⟨kq, x57_19, rfl, HA, HJ19, HB⟩ := hcut
          cases kq with
          | zero => exact absurd HA.out (by simp [foolscaplaw13_CritJoins.j1])
          | succ kj19 =>
            have H := HA.out
            clear HA
            simp only [foolscaplaw13_CritJoins.j1] at H
            by_cases c27 : x57_19 = true
            · subst c27
              have H1 : ((foolscaplaw13_lives.f kj19).bind fun t311 => (some t311)) = some r := by rw [if_pos rfl] at H; exact H
              clear H
              have H := H1
              clear H1
              replace H := Option.bind_eq_some_iff.mp H
              obtain ⟨t311, A280, H⟩ := H
              replace H : (some t311) = some r := H
              have A28 := Aside0.mk A280
              clear A280
              obtain rfl := Option.some.inj H
              go_wp2_with (first | ((with_reducible refine gate_callee (f := 10) rfl ?_); refine goesL_ (some 58) rfl rfl Tryd.func10 (by kernel_rfl) rfl #[] rfl (by (try simp only [List.map_toArray, List.map_cons, List.map_nil]); first | done | rfl | (simp only [List.length_drop, List.length_take]; rfl) | (simp only [ByteArray.size_append, Int.natCast_add]; done) | (simp only [ByteArray.size_append, Int.natCast_add]; rfl) | (simp only [Array.mk.injEq, List.cons.injEq, Value.int.injEq, true_and, and_true]; (try simp only [mx, mn, wrap64] at *); omega)) ?_; (with_reducible refine (foolscaplaw13_lives.calls kj19  t311 _ A28.out).mono ?_); rintro e w29 ⟨rfl, hb⟩; refine ⟨_, rfl, ?_⟩; have n0_ := Aside0.mk (below_step (by repeat (first | (with_reducible first | exact HB.out | apply below_alloc | apply pw_below_drewN | apply below_drew1) | exact HB.out)) hb); clear HB; have HB := n0_; clear n0_; (try clear hb); (try clear hb2); (try clear hk); (try clear hi)))
              go_ret
              exact ⟨by first | rfl | (simp [errW_none, errW_some] <;> rfl) | (simp [*, errW_none, errW_some] <;> rfl), by repeat (first | (with_reducible first | exact HB.out | apply below_alloc | apply pw_below_drewN | apply below_drew1) | exact HB.out)⟩
            · replace c27 := Bool.eq_false_iff.mpr c27
              subst c27
              have H1 : (if a0.size + a1.size ≤ 9223372036854775807 then (if a2.size + a3.size ≤ 9223372036854775807 then ((crit_Like.f kj19 (a0 ++ a1) (a2 ++ a3)).bind fun t312 => (if t312 = true then (if a0.size + 1 ≤ 9223372036854775807 then (if (a0 ++ (⟨#[42]⟩ : ByteArray)).size + a1.size ≤ 9223372036854775807 then (if a2.size + a4.size ≤ 9223372036854775807 then (if (a2 ++ a4).size + a3.size ≤ 9223372036854775807 then ((crit_Like.f kj19 ((a0 ++ (⟨#[42]⟩ : ByteArray)) ++ a1) ((a2 ++ a4) ++ a3)).bind fun t313 => (if t313 = true then ((foolscaplaw13_lives.f kj19).bind fun t314 => (some t314)) else (none))) else (none)) else (none)) else (none)) else (none)) else (none))) else (none)) else (none)) = some r := by rw [if_neg (show ¬ (false = true) by decide)] at H; exact H
              clear H
              have H := H1
              clear H1
              by_cases c30 : a0.size + a1.size ≤ 9223372036854775807
              · rw [if_pos c30] at H
                have c30b0 := eq_true c30
                have c30b1 : decide (a0.size + a1.size ≤ 9223372036854775807) = true := decide_eq_true c30
                try have c30b2 : (9223372036854775807 < a0.size + a1.size) = False := eq_false (Nat.not_lt.2 c30)
                by_cases c31 : a2.size + a3.size ≤ 9223372036854775807
                · rw [if_pos c31] at H
                  have c31b0 := eq_true c31
                  have c31b1 : decide (a2.size + a3.size ≤ 9223372036854775807) = true := decide_eq_true c31
                  try have c31b2 : (9223372036854775807 < a2.size + a3.size) = False := eq_false (Nat.not_lt.2 c31)
                  replace H := Option.bind_eq_some_iff.mp H
                  obtain ⟨t312, A320, H⟩ := H
                  replace H : (if t312 = true then (if a0.size + 1 ≤ 9223372036854775807 then (if (a0 ++ (⟨#[42]⟩ : ByteArray)).size + a1.size ≤ 9223372036854775807 then (if a2.size + a4.size ≤ 9223372036854775807 then (if (a2 ++ a4).size + a3.size ≤ 9223372036854775807 then ((crit_Like.f kj19 ((a0 ++ (⟨#[42]⟩ : ByteArray)) ++ a1) ((a2 ++ a4) ++ a3)).bind fun t313 => (if t313 = true then ((foolscaplaw13_lives.f kj19).bind fun t314 => (some t314)) else (none))) else (none)) else (none)) else (none)) else (none)) else (none)) = some r := H
                  have A32 := Aside0.mk A320
                  clear A320
                  by_cases c33 : t312 = true
                  · subst c33
                    have H1 : (if a0.size + 1 ≤ 9223372036854775807 then (if (a0 ++ (⟨#[42]⟩ : ByteArray)).size + a1.size ≤ 9223372036854775807 then (if a2.size + a4.size ≤ 9223372036854775807 then (if (a2 ++ a4).size + a3.size ≤ 9223372036854775807 then ((crit_Like.f kj19 ((a0 ++ (⟨#[42]⟩ : ByteArray)) ++ a1) ((a2 ++ a4) ++ a3)).bind fun t313 => (if t313 = true then ((foolscaplaw13_lives.f kj19).bind fun t314 => (some t314)) else (none))) else (none)) else (none)) else (none)) else (none)) = some r := by rw [if_pos rfl] at H; exact H
                    clear H
                    have H := H1
                    clear H1
                    by_cases c34 : a0.size + 1 ≤ 9223372036854775807
                    · rw [if_pos c34] at H
                      have c34b0 := eq_true c34
                      have c34b1 : decide (a0.size + 1 ≤ 9223372036854775807) = true := decide_eq_true c34
                      try have c34b2 : (9223372036854775807 < a0.size + 1) = False := eq_false (Nat.not_lt.2 c34)
                      by_cases c35 : (a0 ++ (⟨#[42]⟩ : ByteArray)).size + a1.size ≤ 9223372036854775807
                      · rw [if_pos c35] at H
                        have c35b0 := eq_true c35
                        have c35b1 : decide ((a0 ++ (⟨#[42]⟩ : ByteArray)).size + a1.size ≤ 9223372036854775807) = true := decide_eq_true c35
                        try have c35b2 : (9223372036854775807 < (a0 ++ (⟨#[42]⟩ : ByteArray)).size + a1.size) = False := eq_false (Nat.not_lt.2 c35)
                        by_cases c36 : a2.size + a4.size ≤ 9223372036854775807
                        · rw [if_pos c36] at H
                          have c36b0 := eq_true c36
                          have c36b1 : decide (a2.size + a4.size ≤ 9223372036854775807) = true := decide_eq_true c36
                          try have c36b2 : (9223372036854775807 < a2.size + a4.size) = False := eq_false (Nat.not_lt.2 c36)
                          by_cases c37 : (a2 ++ a4).size + a3.size ≤ 9223372036854775807
                          · rw [if_pos c37] at H
                            have c37b0 := eq_true c37
                            have c37b1 : decide ((a2 ++ a4).size + a3.size ≤ 9223372036854775807) = true := decide_eq_true c37
                            try have c37b2 : (9223372036854775807 < (a2 ++ a4).size + a3.size) = False := eq_false (Nat.not_lt.2 c37)
                            replace H := Option.bind_eq_some_iff.mp H
                            obtain ⟨t313, A380, H⟩ := H
                            replace H : (if t313 = true then ((foolscaplaw13_lives.f kj19).bind fun t314 => (some t314)) else (none)) = some r := H
                            have A38 := Aside0.mk A380
                            clear A380
                            by_cases c39 : t313 = true
                            · subst c39
                              have H1 : ((foolscaplaw13_lives.f kj19).bind fun t314 => (some t314)) = some r := by rw [if_pos rfl] at H; exact H
                              clear H
                              have H := H1
                              clear H1
                              replace H := Option.bind_eq_some_iff.mp H
                              obtain ⟨t314, A400, H⟩ := H
                              replace H : (some t314) = some r := H
                              have A40 := Aside0.mk A400
                              clear A400
                              obtain rfl := Option.some.inj H
                              (try (have c35b1n_ := of_decide_eq_true c35b1; simp only [ByteArray.size_append, Int.natCast_add] at c35b1n_))
                              (try (have c35b1m_ := of_decide_eq_true c35b1; rw [ByteArray.size_extract, Nat.min_eq_left (by omega), Nat.sub_zero] at c35b1m_))
                              (try (have c35b1j_ := of_decide_eq_true c35b1; simp only [ByteArray.size_append, ByteArray.size_extract, show ∀ z : UInt8, (⟨#[z]⟩ : ByteArray).size = 1 from fun _ => rfl] at c35b1j_; (repeat rw [Nat.min_eq_left (by omega)] at c35b1j_); (try simp only [Nat.sub_zero] at c35b1j_); have c35b1f_ := eq_false (Nat.not_lt.2 c35b1j_)))
                              (try (have c35b1k_ := of_decide_eq_true c35b1; simp only [ByteArray.size_append, ByteArray.size_extract, show ∀ z : UInt8, (⟨#[z]⟩ : ByteArray).size = 1 from fun _ => rfl] at c35b1k_; (repeat rw [Nat.min_eq_left (by omega)] at c35b1k_); (try simp only [Nat.sub_zero] at c35b1k_); (try simp at c35b1k_)))
                              (try (have c37b1n_ := of_decide_eq_true c37b1; simp only [ByteArray.size_append, Int.natCast_add] at c37b1n_))
                              (try (have c37b1m_ := of_decide_eq_true c37b1; rw [ByteArray.size_extract, Nat.min_eq_left (by omega), Nat.sub_zero] at c37b1m_))
                              (try (have c37b1j_ := of_decide_eq_true c37b1; simp only [ByteArray.size_append, ByteArray.size_extract, show ∀ z : UInt8, (⟨#[z]⟩ : ByteArray).size = 1 from fun _ => rfl] at c37b1j_; (repeat rw [Nat.min_eq_left (by omega)] at c37b1j_); (try simp only [Nat.sub_zero] at c37b1j_); have c37b1f_ := eq_false (Nat.not_lt.2 c37b1j_)))
                              (try (have c37b1k_ := of_decide_eq_true c37b1; simp only [ByteArray.size_append, ByteArray.size_extract, show ∀ z : UInt8, (⟨#[z]⟩ : ByteArray).size = 1 from fun _ => rfl] at c37b1k_; (repeat rw [Nat.min_eq_left (by omega)] at c37b1k_); (try simp only [Nat.sub_zero] at c37b1k_); (try simp at c37b1k_)))
                              go_wp2_with (first | ((with_reducible refine gate_callee (f := 11) rfl ?_); refine goesL_ (some 65) rfl rfl Tryd.func11 (by kernel_rfl) rfl #[.string (a0 ++ a1), .string (a2 ++ a3)] rfl (by (try simp only [List.map_toArray, List.map_cons, List.map_nil]); first | done | rfl | (simp only [List.length_drop, List.length_take]; rfl) | (simp only [ByteArray.size_append, Int.natCast_add]; done) | (simp only [ByteArray.size_append, Int.natCast_add]; rfl) | (simp only [Array.mk.injEq, List.cons.injEq, Value.int.injEq, true_and, and_true]; (try simp only [mx, mn, wrap64] at *); omega)) ?_; (with_reducible refine (crit_Like.calls kj19 (a0 ++ a1) (a2 ++ a3) true _ A32.out).mono ?_); rintro e w41 ⟨rfl, hb⟩; refine ⟨_, rfl, ?_⟩; have n0_ := Aside0.mk (below_step (by repeat (first | (with_reducible first | exact HB.out | apply below_alloc | apply pw_below_drewN | apply below_drew1) | exact HB.out)) hb); clear HB; have HB := n0_; clear n0_; (try clear hb); (try clear hb2); (try clear hk); (try clear hi)) | (go_at_call 11; (with_reducible refine (crit_Like.calls kj19 ((a0 ++ (⟨#[42]⟩ : ByteArray)) ++ a1) ((a2 ++ a4) ++ a3) true _ A38.out).mono ?_); rintro e w42 ⟨rfl, hb⟩; have n0_ := Aside0.mk (below_step (by repeat (first | (with_reducible first | exact HB.out | apply below_alloc | apply pw_below_drewN | apply below_drew1) | exact HB.out)) hb); clear HB; have HB := n0_; clear n0_; (try clear hb); (try clear hb2); (try clear hk); (try clear hi)) | (go_at_call 10; (with_reducible refine (foolscaplaw13_lives.calls kj19  t314 _ A40.out).mono ?_); rintro e w43 ⟨rfl, hb⟩; have n0_ := Aside0.mk (below_step (by repeat (first | (with_reducible first | exact HB.out | apply below_alloc | apply pw_below_drewN | apply below_drew1) | exact HB.out)) hb); clear HB; have HB := n0_; clear n0_; (try clear hb); (try clear hb2); (try clear hk); (try clear hi)))
                              go_ret
                              exact ⟨by first | rfl | (simp [errW_none, errW_some] <;> rfl) | (simp [*, errW_none, errW_some] <;> rfl), by repeat (first | (with_reducible first | exact HB.out | apply below_alloc | apply pw_below_drewN | apply below_drew1) | exact HB.out)⟩
                            · replace c39 := Bool.eq_false_iff.mpr c39
                              subst c39
                              have H1 : (none) = some r := by rw [if_neg (show ¬ (false = true) by decide)] at H; exact H
                              clear H
                              have H := H1
                              clear H1
                              exact absurd H (by simp)
                          · rw [if_neg c37] at H
                            exact absurd H (by simp)
                        · rw [if_neg c36] at H
                          exact absurd H (by simp)
                      · rw [if_neg c35] at H
                        exact absurd H (by simp)
                    · rw [if_neg c34] at H
                      exact absurd H (by simp)
                  · replace c33 := Bool.eq_false_iff.mpr c33
                    subst c33
                    have H1 : (none) = some r := by rw [if_neg (show ¬ (false = true) by decide)] at H; exact H
                    clear H
                    have H := H1
                    clear H1
                    exact absurd H (by simp)
                · rw [if_neg c31] at H
                  exact absurd H (by simp)
              · rw [if_neg c30] at H
                exact absurd H (by simp)
end Go.Proofs.YtngdggmlfoogcaaDoor.Pr
end
