-- Printed by pr.py, a program of this claim's author, out of Lean's own print of the program. Not trusted: Lean checks it.
import Derived.Test.YtiloagepldeeeaaDoorPr0
import Derived.Test.YtiloagepldeeeaaDoorPr2
namespace Go.Proofs.YtiloagepldeeeaaDoor.Pr
open Go.RowKit Go.Proofs.YtiloagepldeeeaaDoorW.PrintWords Go.Proofs.YtiloagepldeeeaaDoorW.PrintLast Go.Proofs.YtiloagepldeeeaaDoorW.PrintMore
attribute [local go_sem] max2_int min2_int max_two min_two max_three min_three max_four min_four   -- for this text's walks alone
set_option linter.unusedVariables false
set_option linter.unusedSimpArgs false

/-! ### foolscapref11_Serial: function 13 -/
mutual
def foolscapref11_Serial.j0 : Nat → Int → Int → Int → Bool → Option (Int × Int)
  | 0, _, _, _, _ => none
  | k + 1, x0, x1, x2, x25 => if x25 = true then (some (0, 2)) else (if (wrap64 (Int.tdiv (wrap64 ((wrap64 ((wrap64 (12 * x0)) + x1)) - 1)) 12)) < 1500 then (foolscapref11_Serial.j1 k x2 (wrap64 (Int.tdiv (wrap64 ((wrap64 ((wrap64 (12 * x0)) + x1)) - 1)) 12)) (wrap64 ((Int.tmod (wrap64 ((wrap64 ((wrap64 (12 * x0)) + x1)) - 1)) 12) + 1)) true) else (foolscapref11_Serial.j1 k x2 (wrap64 (Int.tdiv (wrap64 ((wrap64 ((wrap64 (12 * x0)) + x1)) - 1)) 12)) (wrap64 ((Int.tmod (wrap64 ((wrap64 ((wrap64 (12 * x0)) + x1)) - 1)) 12) + 1)) (decide ((wrap64 (Int.tdiv (wrap64 ((wrap64 ((wrap64 (12 * x0)) + x1)) - 1)) 12)) > 10400))))
def foolscapref11_Serial.j1 : Nat → Int → Int → Int → Bool → Option (Int × Int)
  | 0, _, _, _, _ => none
  | k + 1, x2, x9, x10, x41 => if x41 = true then (some (0, 3)) else ((foolscapref11_first.f k x9 x10).bind fun t112 => (if (wrap64 ((wrap64 (t112 + x2)) - 1)) < 1 then (some (0, 3)) else (if (wrap64 ((wrap64 (t112 + x2)) - 1)) > 2958464 then (some (0, 3)) else (some (wrap64 ((wrap64 (t112 + x2)) - 1), 0)))))
end
def foolscapref11_Serial.f (k : Nat) (a0 : Int) (a1 : Int) (a2 : Int) : Option (Int × Int) := if a0 < 1900 then (foolscapref11_Serial.j0 k a0 a1 a2 true) else (if a0 > 9999 then (foolscapref11_Serial.j0 k a0 a1 a2 true) else ((foolscapref11_far.f a1 100000).bind fun t110 => (if t110 = true then (foolscapref11_Serial.j0 k a0 a1 a2 true) else ((foolscapref11_far.f a2 100000).bind fun t111 => (foolscapref11_Serial.j0 k a0 a1 a2 t111)))))
theorem foolscapref11_Serial.mono_l : ∀ k, (∀ y0 y1 y2 y3, LeO (foolscapref11_Serial.j0 k y0 y1 y2 y3) (foolscapref11_Serial.j0 (k + 1) y0 y1 y2 y3)) ∧ (∀ y0 y1 y2 y3, LeO (foolscapref11_Serial.j1 k y0 y1 y2 y3) (foolscapref11_Serial.j1 (k + 1) y0 y1 y2 y3))
  | 0 => ⟨fun _ _ _ _ r h => by simp [foolscapref11_Serial.j0] at h, fun _ _ _ _ r h => by simp [foolscapref11_Serial.j1] at h⟩
  | k + 1 => by
    obtain ⟨ih0, ih1⟩ := foolscapref11_Serial.mono_l k
    refine ⟨?_, ?_⟩
    · intro y0 y1 y2 y3
      unfold foolscapref11_Serial.j0
      repeat' first
      | (with_reducible exact ih0 _ _ _ _)
      | (with_reducible exact ih1 _ _ _ _)
      | (with_reducible exact foolscapref11_first.mono _ _ _)
      | (with_reducible exact LeO.refl _)
      | (with_reducible exact LeO.none _)
      | (with_reducible refine LeO.ite ?_ ?_)
      | (with_reducible refine LeO.bind ?_ (fun _ => ?_))
      | exact ih0 _ _ _ _
      | exact ih1 _ _ _ _
      | exact foolscapref11_first.mono _ _ _
      | exact LeO.none _
      | refine LeO.ite ?_ ?_
      | refine LeO.bind ?_ (fun _ => ?_)
    · intro y0 y1 y2 y3
      unfold foolscapref11_Serial.j1
      repeat' first
      | (with_reducible exact ih0 _ _ _ _)
      | (with_reducible exact ih1 _ _ _ _)
      | (with_reducible exact foolscapref11_first.mono _ _ _)
      | (with_reducible exact LeO.refl _)
      | (with_reducible exact LeO.none _)
      | (with_reducible refine LeO.ite ?_ ?_)
      | (with_reducible refine LeO.bind ?_ (fun _ => ?_))
      | exact ih0 _ _ _ _
      | exact ih1 _ _ _ _
      | exact foolscapref11_first.mono _ _ _
      | exact LeO.none _
      | refine LeO.ite ?_ ?_
      | refine LeO.bind ?_ (fun _ => ?_)
theorem foolscapref11_Serial.mono : ∀ a0 a1 a2 k, LeO (foolscapref11_Serial.f k a0 a1 a2) (foolscapref11_Serial.f (k + 1) a0 a1 a2) := by
  intro a0 a1 a2 k
  obtain ⟨ih0, ih1⟩ := foolscapref11_Serial.mono_l k
  unfold foolscapref11_Serial.f
  repeat' first
      | (with_reducible exact ih0 _ _ _ _)
      | (with_reducible exact ih1 _ _ _ _)
      | (with_reducible exact foolscapref11_first.mono _ _ _)
      | (with_reducible exact LeO.refl _)
      | (with_reducible exact LeO.none _)
      | (with_reducible refine LeO.ite ?_ ?_)
      | (with_reducible refine LeO.bind ?_ (fun _ => ?_))
      | exact ih0 _ _ _ _
      | exact ih1 _ _ _ _
      | exact foolscapref11_first.mono _ _ _
      | exact LeO.none _
      | refine LeO.ite ?_ ?_
      | refine LeO.bind ?_ (fun _ => ?_)
set_option maxHeartbeats 8000000 in
set_option maxRecDepth 100000 in
theorem foolscapref11_Serial.calls (k : Nat) (a0 : Int) (a1 : Int) (a2 : Int) (r1 : Int) (r2 : Int) (w : World) (h : foolscapref11_Serial.f k a0 a1 a2 = some (r1, r2)) :
    Calls Tryd.prog 13 #[.int .i64 a0, .int .i64 a1, .int .i64 a2] w fun e w' => e = .returned (.tuple #[.int .i64 r1, .int .i64 r2]) ∧ Drawn0 w w' := by
  have H : (if a0 < 1900 then (foolscapref11_Serial.j0 k a0 a1 a2 true) else (if a0 > 9999 then (foolscapref11_Serial.j0 k a0 a1 a2 true) else ((foolscapref11_far.f a1 100000).bind fun t110 => (if t110 = true then (foolscapref11_Serial.j0 k a0 a1 a2 true) else ((foolscapref11_far.f a2 100000).bind fun t111 => (foolscapref11_Serial.j0 k a0 a1 a2 t111)))))) = some (r1, r2) := h
  clear h
  have HC4 := Aside0.mk H
  clear H
  go_enter Tryd.func13, Tryd.ntmps13
  go_upto_region 1 with (fail)
  go_cut [25] (fun v25 wc => ∃ (kq : Nat) (x25_3 : Bool), v25 = .bool x25_3 ∧ Aside0 (foolscapref11_Serial.j0 kq a0 a1 a2 x25_3 = some (r1, r2)) ∧ Aside0 (kq ≤ k) ∧ Drawn0 w wc)
  case first =>
    have H := HC4.out
    clear HC4
    by_cases c5 : a0 < 1900
    · rw [if_pos c5] at H
      have c5b0 : decide (a0 < 1900) = true := decide_eq_true c5
      clear c5
      (first | rw [c5b0] | (simp only [i64_w, i32_w]; rw [c5b0]) | skip)
      have H' := Aside0.mk H
      clear H
      go_wp2
      go_meet
      case rel => exact ⟨_, (true), (by first | rfl | (simp; done) | (simp [*]; done)), H', ⟨by first | omega | exact Nat.le_refl _⟩, by repeat (first | exact Drawn0.refl _ | apply Drawn0.step)⟩
    · rw [if_neg c5] at H
      have c5b0 : decide (a0 < 1900) = false := decide_eq_false c5
      clear c5
      (first | rw [c5b0] | (simp only [i64_w, i32_w]; rw [c5b0]) | skip)
      by_cases c6 : a0 > 9999
      · rw [if_pos c6] at H
        have c6b0 : decide (9999 < a0) = true := decide_eq_true c6
        clear c6
        have H' := Aside0.mk H
        clear H
        go_wp2
        go_meet
        case rel => exact ⟨_, (true), (by first | rfl | (simp; done) | (simp [*]; done)), H', ⟨by first | omega | exact Nat.le_refl _⟩, by repeat (first | exact Drawn0.refl _ | apply Drawn0.step)⟩
      · rw [if_neg c6] at H
        have c6b0 : decide (9999 < a0) = false := decide_eq_false c6
        clear c6
        replace H := Option.bind_eq_some_iff.mp H
        obtain ⟨t110, A70, H⟩ := H
        replace H : (if t110 = true then (foolscapref11_Serial.j0 k a0 a1 a2 true) else ((foolscapref11_far.f a2 100000).bind fun t111 => (foolscapref11_Serial.j0 k a0 a1 a2 t111))) = some (r1, r2) := H
        have A7 := Aside0.mk A70
        clear A70
        by_cases c8 : t110 = true
        · subst c8
          have H1 : (foolscapref11_Serial.j0 k a0 a1 a2 true) = some (r1, r2) := by rw [if_pos rfl] at H; exact H
          clear H
          have H := H1
          clear H1
          have H' := Aside0.mk H
          clear H
          go_wp2_with (first | (go_at_call 30; (with_reducible refine (foolscapref11_far.calls a1 100000 true _ A7.out).mono ?_); rintro e w' ⟨rfl, ⟨nd, rfl⟩⟩))
          go_meet
          case rel => exact ⟨_, (true), (by first | rfl | (simp; done) | (simp [*]; done)), H', ⟨by first | omega | exact Nat.le_refl _⟩, by repeat (first | exact Drawn0.refl _ | apply Drawn0.step)⟩
        · replace c8 := Bool.eq_false_iff.mpr c8
          subst c8
          have H1 : ((foolscapref11_far.f a2 100000).bind fun t111 => (foolscapref11_Serial.j0 k a0 a1 a2 t111)) = some (r1, r2) := by rw [if_neg (show ¬ (false = true) by decide)] at H; exact H
          clear H
          have H := H1
          clear H1
          replace H := Option.bind_eq_some_iff.mp H
          obtain ⟨t111, A90, H⟩ := H
          replace H : (foolscapref11_Serial.j0 k a0 a1 a2 t111) = some (r1, r2) := H
          have A9 := Aside0.mk A90
          clear A90
          have H' := Aside0.mk H
          clear H
          go_wp2_with (first | (go_at_call 30; (with_reducible refine (foolscapref11_far.calls a1 100000 false _ A7.out).mono ?_); rintro e w' ⟨rfl, ⟨nd, rfl⟩⟩) | (go_at_call 30; (with_reducible refine (foolscapref11_far.calls a2 100000 t111 _ A9.out).mono ?_); rintro e w' ⟨rfl, ⟨nd, rfl⟩⟩))
          go_meet
          case rel => exact ⟨_, (t111), (by first | rfl | (simp; done) | (simp [*]; done)), H', ⟨by first | omega | exact Nat.le_refl _⟩, by repeat (first | exact Drawn0.refl _ | apply Drawn0.step)⟩
  case rest =>
    clear HC4
    try clear c1
    try clear p2
    try clear c5
    try clear c5b0
    try clear c6
    try clear c6b0
    try clear c8
    obtain ⟨kq, x25_3, rfl, HA, HJ3, ⟨mc3, rfl⟩⟩ := hcut
    cases kq with
    | zero => exact absurd HA.out (by simp [foolscapref11_Serial.j0])
    | succ kj3 =>
      have H := HA.out
      clear HA
      simp only [foolscapref11_Serial.j0] at H
      by_cases c10 : x25_3 = true
      · subst c10
        have H1 : (some (0, 2)) = some (r1, r2) := by rw [if_pos rfl] at H; exact H
        clear H
        have H := H1
        clear H1
        simp only [Option.some.injEq, Prod.mk.injEq] at H
        obtain ⟨rfl, rfl⟩ := H
        go_wp2
        go_ret2
        exact ⟨by first | rfl | (simp; done) | (simp [*]; done), by repeat (first | exact Drawn0.refl _ | apply Drawn0.step)⟩
      · replace c10 := Bool.eq_false_iff.mpr c10
        subst c10
        have H1 : (if (wrap64 (Int.tdiv (wrap64 ((wrap64 ((wrap64 (12 * a0)) + a1)) - 1)) 12)) < 1500 then (foolscapref11_Serial.j1 kj3 a2 (wrap64 (Int.tdiv (wrap64 ((wrap64 ((wrap64 (12 * a0)) + a1)) - 1)) 12)) (wrap64 ((Int.tmod (wrap64 ((wrap64 ((wrap64 (12 * a0)) + a1)) - 1)) 12) + 1)) true) else (foolscapref11_Serial.j1 kj3 a2 (wrap64 (Int.tdiv (wrap64 ((wrap64 ((wrap64 (12 * a0)) + a1)) - 1)) 12)) (wrap64 ((Int.tmod (wrap64 ((wrap64 ((wrap64 (12 * a0)) + a1)) - 1)) 12) + 1)) (decide ((wrap64 (Int.tdiv (wrap64 ((wrap64 ((wrap64 (12 * a0)) + a1)) - 1)) 12)) > 10400)))) = some (r1, r2) := by rw [if_neg (show ¬ (false = true) by decide)] at H; exact H
        clear H
        have H := H1
        clear H1
        have HC11 := Aside0.mk H
        clear H
        go_upto_region 5 with (fail)
        go_cut [41] (fun v41 wc => ∃ (kq : Nat) (x41_10 : Bool), v41 = .bool x41_10 ∧ Aside0 (foolscapref11_Serial.j1 kq a2 (wrap64 (Int.tdiv (wrap64 ((wrap64 ((wrap64 (12 * a0)) + a1)) - 1)) 12)) (wrap64 ((Int.tmod (wrap64 ((wrap64 ((wrap64 (12 * a0)) + a1)) - 1)) 12) + 1)) x41_10 = some (r1, r2)) ∧ Aside0 (kq ≤ kj3) ∧ Drawn0 w wc)
        case first =>
          have H := HC11.out
          clear HC11
          by_cases c12 : (wrap64 (Int.tdiv (wrap64 ((wrap64 ((wrap64 (12 * a0)) + a1)) - 1)) 12)) < 1500
          · rw [if_pos c12] at H
            have c12b0 : decide ((wrap64 (Int.tdiv (wrap64 ((wrap64 ((wrap64 (12 * a0)) + a1)) - 1)) 12)) < 1500) = true := decide_eq_true c12
            clear c12
            (first | rw [c12b0] | (simp only [i64_w, i32_w]; rw [c12b0]) | skip)
            have H' := Aside0.mk H
            clear H
            go_wp2
            go_meet
            case rel => exact ⟨_, (true), (by first | rfl | (simp; done) | (simp [*]; done)), H', ⟨by have := HJ3.out; first | omega | exact Nat.le_refl _⟩, by repeat (first | exact Drawn0.refl _ | apply Drawn0.step)⟩
          · rw [if_neg c12] at H
            have c12b0 : decide ((wrap64 (Int.tdiv (wrap64 ((wrap64 ((wrap64 (12 * a0)) + a1)) - 1)) 12)) < 1500) = false := decide_eq_false c12
            clear c12
            (first | rw [c12b0] | (simp only [i64_w, i32_w]; rw [c12b0]) | skip)
            have H' := Aside0.mk H
            clear H
            go_wp2
            go_meet
            case rel => exact ⟨_, (decide ((wrap64 (Int.tdiv (wrap64 ((wrap64 ((wrap64 (12 * a0)) + a1)) - 1)) 12)) > 10400)), (by first | rfl | (simp; done) | (simp [*]; done)), H', ⟨by have := HJ3.out; first | omega | exact Nat.le_refl _⟩, by repeat (first | exact Drawn0.refl _ | apply Drawn0.step)⟩
        case rest =>
          clear HC11
          try clear c1
          try clear p2
          try clear c3
          try clear c5
          try clear c5b0
          try clear c6
          try clear c6b0
          try clear p6
          try clear c8
          try clear c10
          try clear c12
          try clear c12b0
          try clear p2
          obtain ⟨kq, x41_10, rfl, HA, HJ10, ⟨mc10, rfl⟩⟩ := hcut
          cases kq with
          | zero => exact absurd HA.out (by simp [foolscapref11_Serial.j1])
          | succ kj10 =>
            have H := HA.out
            clear HA
            simp only [foolscapref11_Serial.j1] at H
            by_cases c13 : x41_10 = true
            · subst c13
              have H1 : (some (0, 3)) = some (r1, r2) := by rw [if_pos rfl] at H; exact H
              clear H
              have H := H1
              clear H1
              simp only [Option.some.injEq, Prod.mk.injEq] at H
              obtain ⟨rfl, rfl⟩ := H
              go_wp2
              go_ret2
              exact ⟨by first | rfl | (simp; done) | (simp [*]; done), by repeat (first | exact Drawn0.refl _ | apply Drawn0.step)⟩
            · replace c13 := Bool.eq_false_iff.mpr c13
              subst c13
              have H1 : ((foolscapref11_first.f kj10 (wrap64 (Int.tdiv (wrap64 ((wrap64 ((wrap64 (12 * a0)) + a1)) - 1)) 12)) (wrap64 ((Int.tmod (wrap64 ((wrap64 ((wrap64 (12 * a0)) + a1)) - 1)) 12) + 1))).bind fun t112 => (if (wrap64 ((wrap64 (t112 + a2)) - 1)) < 1 then (some (0, 3)) else (if (wrap64 ((wrap64 (t112 + a2)) - 1)) > 2958464 then (some (0, 3)) else (some (wrap64 ((wrap64 (t112 + a2)) - 1), 0))))) = some (r1, r2) := by rw [if_neg (show ¬ (false = true) by decide)] at H; exact H
              clear H
              have H := H1
              clear H1
              replace H := Option.bind_eq_some_iff.mp H
              obtain ⟨t112, A140, H⟩ := H
              replace H : (if (wrap64 ((wrap64 (t112 + a2)) - 1)) < 1 then (some (0, 3)) else (if (wrap64 ((wrap64 (t112 + a2)) - 1)) > 2958464 then (some (0, 3)) else (some (wrap64 ((wrap64 (t112 + a2)) - 1), 0)))) = some (r1, r2) := H
              have A14 := Aside0.mk A140
              clear A140
              by_cases c15 : (wrap64 ((wrap64 (t112 + a2)) - 1)) < 1
              · rw [if_pos c15] at H
                have c15b0 : decide ((wrap64 ((wrap64 (t112 + a2)) - 1)) < 1) = true := decide_eq_true c15
                clear c15
                simp only [Option.some.injEq, Prod.mk.injEq] at H
                obtain ⟨rfl, rfl⟩ := H
                go_wp2_with (first | ((with_reducible refine gate_callee (f := 31) rfl ?_); refine goesL_ (some 44) rfl rfl Tryd.func31 (by kernel_rfl) rfl #[.int .i64 (wrap64 (Int.tdiv (wrap64 ((wrap64 ((wrap64 (12 * a0)) + a1)) - 1)) 12)), .int .i64 (wrap64 ((Int.tmod (wrap64 ((wrap64 ((wrap64 (12 * a0)) + a1)) - 1)) 12) + 1))] rfl (by (try simp only [List.map_toArray, List.map_cons, List.map_nil]); first | done | rfl | (simp only [List.length_drop, List.length_take]; rfl) | (simp only [ByteArray.size_append, Int.natCast_add]; done) | (simp only [ByteArray.size_append, Int.natCast_add]; rfl) | (simp only [Array.mk.injEq, List.cons.injEq, Value.int.injEq, true_and, and_true]; (try simp only [mx, mn, wrap64] at *); omega)) ?_; (with_reducible refine (foolscapref11_first.calls kj10 (wrap64 (Int.tdiv (wrap64 ((wrap64 ((wrap64 (12 * a0)) + a1)) - 1)) 12)) (wrap64 ((Int.tmod (wrap64 ((wrap64 ((wrap64 (12 * a0)) + a1)) - 1)) 12) + 1)) t112 _ A14.out).mono ?_); rintro e w' ⟨rfl, ⟨nd, rfl⟩⟩; refine ⟨_, rfl, ?_⟩))
                go_ret2
                exact ⟨by first | rfl | (simp; done) | (simp [*]; done), by repeat (first | exact Drawn0.refl _ | apply Drawn0.step)⟩
              · rw [if_neg c15] at H
                have c15b0 : decide ((wrap64 ((wrap64 (t112 + a2)) - 1)) < 1) = false := decide_eq_false c15
                clear c15
                by_cases c16 : (wrap64 ((wrap64 (t112 + a2)) - 1)) > 2958464
                · rw [if_pos c16] at H
                  have c16b0 : decide (2958464 < (wrap64 ((wrap64 (t112 + a2)) - 1))) = true := decide_eq_true c16
                  clear c16
                  simp only [Option.some.injEq, Prod.mk.injEq] at H
                  obtain ⟨rfl, rfl⟩ := H
                  go_wp2_with (first | ((with_reducible refine gate_callee (f := 31) rfl ?_); refine goesL_ (some 44) rfl rfl Tryd.func31 (by kernel_rfl) rfl #[.int .i64 (wrap64 (Int.tdiv (wrap64 ((wrap64 ((wrap64 (12 * a0)) + a1)) - 1)) 12)), .int .i64 (wrap64 ((Int.tmod (wrap64 ((wrap64 ((wrap64 (12 * a0)) + a1)) - 1)) 12) + 1))] rfl (by (try simp only [List.map_toArray, List.map_cons, List.map_nil]); first | done | rfl | (simp only [List.length_drop, List.length_take]; rfl) | (simp only [ByteArray.size_append, Int.natCast_add]; done) | (simp only [ByteArray.size_append, Int.natCast_add]; rfl) | (simp only [Array.mk.injEq, List.cons.injEq, Value.int.injEq, true_and, and_true]; (try simp only [mx, mn, wrap64] at *); omega)) ?_; (with_reducible refine (foolscapref11_first.calls kj10 (wrap64 (Int.tdiv (wrap64 ((wrap64 ((wrap64 (12 * a0)) + a1)) - 1)) 12)) (wrap64 ((Int.tmod (wrap64 ((wrap64 ((wrap64 (12 * a0)) + a1)) - 1)) 12) + 1)) t112 _ A14.out).mono ?_); rintro e w' ⟨rfl, ⟨nd, rfl⟩⟩; refine ⟨_, rfl, ?_⟩))
                  go_ret2
                  exact ⟨by first | rfl | (simp; done) | (simp [*]; done), by repeat (first | exact Drawn0.refl _ | apply Drawn0.step)⟩
                · rw [if_neg c16] at H
                  have c16b0 : decide (2958464 < (wrap64 ((wrap64 (t112 + a2)) - 1))) = false := decide_eq_false c16
                  clear c16
                  simp only [Option.some.injEq, Prod.mk.injEq] at H
                  obtain ⟨rfl, rfl⟩ := H
                  go_wp2_with (first | ((with_reducible refine gate_callee (f := 31) rfl ?_); refine goesL_ (some 44) rfl rfl Tryd.func31 (by kernel_rfl) rfl #[.int .i64 (wrap64 (Int.tdiv (wrap64 ((wrap64 ((wrap64 (12 * a0)) + a1)) - 1)) 12)), .int .i64 (wrap64 ((Int.tmod (wrap64 ((wrap64 ((wrap64 (12 * a0)) + a1)) - 1)) 12) + 1))] rfl (by (try simp only [List.map_toArray, List.map_cons, List.map_nil]); first | done | rfl | (simp only [List.length_drop, List.length_take]; rfl) | (simp only [ByteArray.size_append, Int.natCast_add]; done) | (simp only [ByteArray.size_append, Int.natCast_add]; rfl) | (simp only [Array.mk.injEq, List.cons.injEq, Value.int.injEq, true_and, and_true]; (try simp only [mx, mn, wrap64] at *); omega)) ?_; (with_reducible refine (foolscapref11_first.calls kj10 (wrap64 (Int.tdiv (wrap64 ((wrap64 ((wrap64 (12 * a0)) + a1)) - 1)) 12)) (wrap64 ((Int.tmod (wrap64 ((wrap64 ((wrap64 (12 * a0)) + a1)) - 1)) 12) + 1)) t112 _ A14.out).mono ?_); rintro e w' ⟨rfl, ⟨nd, rfl⟩⟩; refine ⟨_, rfl, ?_⟩))
                  go_ret2
                  exact ⟨by first | rfl | (simp; done) | (simp [*]; done), by repeat (first | exact Drawn0.refl _ | apply Drawn0.step)⟩

/-! ### dates_Leap: function 14 -/
def dates_Leap.f (a0 : Int) : Option (Bool) := if (Int.tmod a0 4) = 0 then (if (Int.tmod a0 100) = 0 then (some ((Int.tmod a0 400) == 0)) else (some true)) else (some false)
set_option maxHeartbeats 8000000 in
set_option maxRecDepth 100000 in
theorem dates_Leap.calls (a0 : Int) (r : Bool) (w : World) (h : dates_Leap.f a0 = some r) :
    Calls Tryd.prog 14 #[.int .i64 a0] w fun e w' => e = .returned (.bool r) ∧ Drawn0 w w' := by
  have H : (if (Int.tmod a0 4) = 0 then (if (Int.tmod a0 100) = 0 then (some ((Int.tmod a0 400) == 0)) else (some true)) else (some false)) = some r := h
  clear h
  by_cases c2 : (Int.tmod a0 4) = 0
  · rw [if_pos c2] at H
    have c2b0 : ((Int.tmod a0 4) == 0) = true := beq_iff_eq.mpr c2
    have c2b1 : ((Int.tmod a0 4) != 0) = false := bne_eq_false_iff_eq.mpr c2
    clear c2
    by_cases c3 : (Int.tmod a0 100) = 0
    · rw [if_pos c3] at H
      have c3b0 : ((Int.tmod a0 100) == 0) = true := beq_iff_eq.mpr c3
      have c3b1 : ((Int.tmod a0 100) != 0) = false := bne_eq_false_iff_eq.mpr c3
      clear c3
      obtain rfl := Option.some.inj H
      go_enter Tryd.func14, Tryd.ntmps14
      go_wp2
      go_ret
      exact ⟨by first | rfl | (simp; done) | (simp [*]; done), by repeat (first | exact Drawn0.refl _ | apply Drawn0.step)⟩
    · rw [if_neg c3] at H
      have c3b0 : ((Int.tmod a0 100) == 0) = false := beq_eq_false_iff_ne.mpr c3
      have c3b1 : ((Int.tmod a0 100) != 0) = true := bne_iff_ne.mpr c3
      obtain rfl := Option.some.inj H
      go_enter Tryd.func14, Tryd.ntmps14
      go_wp2
      go_ret
      exact ⟨by first | rfl | (simp; done) | (simp [*]; done), by repeat (first | exact Drawn0.refl _ | apply Drawn0.step)⟩
  · rw [if_neg c2] at H
    have c2b0 : ((Int.tmod a0 4) == 0) = false := beq_eq_false_iff_ne.mpr c2
    have c2b1 : ((Int.tmod a0 4) != 0) = true := bne_iff_ne.mpr c2
    obtain rfl := Option.some.inj H
    go_enter Tryd.func14, Tryd.ntmps14
    go_wp2
    go_ret
    exact ⟨by first | rfl | (simp; done) | (simp [*]; done), by repeat (first | exact Drawn0.refl _ | apply Drawn0.step)⟩

end Go.Proofs.YtiloagepldeeeaaDoor.Pr
