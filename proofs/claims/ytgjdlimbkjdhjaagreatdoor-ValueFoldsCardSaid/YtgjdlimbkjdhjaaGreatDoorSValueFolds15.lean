/-
  What the law ValueFolds leans on, out of the texts that were printed and written for this seat: only what its proof mentions (gathered by a program of the author's).
-/
import Derived.Test.YtgjdlimbkjdhjaaGreatDoorSValueFolds4
import Derived.Test.YtgjdlimbkjdhjaaGreatDoorSValueFolds10
import Derived.Test.YtgjdlimbkjdhjaaGreatDoorSValueFolds13
import Derived.Test.YtgjdlimbkjdhjaaGreatDoorSValueFolds14
import Derived.Test.YtgjdlimbkjdhjaaGreatDoorSValueFolds5
import Derived.Test.YtgjdlimbkjdhjaaGreatDoorSValueFolds8
section
namespace Go.Proofs.YtgjdlimbkjdhjaaGreatDoor.Pr
open Go.RowKit Go.Proofs.YtgjdlimbkjdhjaaGreatDoorW.PrintWords Go.Proofs.YtgjdlimbkjdhjaaGreatDoorW.PrintLast Go.Proofs.YtgjdlimbkjdhjaaGreatDoorW.PrintMore
attribute [local go_sem] max2_int min2_int max_two min_two max_three min_three max_four min_four   -- for this text's walks alone
set_option linter.unusedVariables false
set_option linter.unusedSimpArgs false
def foolscaplaw04_ValueFolds.j0 : Nat → ByteArray → ByteArray → Bool → Option (Bool)
  | 0, _, _, _ => none
  | k + 1, x0, x1, x19 => if x19 = true then ((value_Fold.f x0).bind fun t440 => ((value_Fold.f t440).bind fun t441 => ((value_Fold.f x0).bind fun t442 => (if t441.toList = t442.toList then ((value_Fold.f x0).bind fun t443 => (if (t443.size : Int) = (x0.size : Int) then ((foolscaplaw04_lives.f k).bind fun t444 => (some t444)) else (none))) else (none))))) else ((value_Fold.f x0).bind fun t445 => ((value_Fold.f x1).bind fun t446 => ((foolscaplaw04_text.f x0).bind fun bt447 => ((foolscaplaw04_text.f x1).bind fun bt452 => ((value_Compare.f k bt447.1 bt447.2.1 bt447.2.2.1 bt447.2.2.2.1 bt447.2.2.2.2 bt452.1 bt452.2.1 bt452.2.2.1 bt452.2.2.2.1 bt452.2.2.2.2).bind fun bt457 => ((foolscaplaw04_text.f x0).bind fun bt459 => ((value_Truth.f bt459.1 bt459.2.1 bt459.2.2.1 bt459.2.2.2.1 bt459.2.2.2.2).bind fun bt464 => ((value_Fold.f x0).bind fun t466 => ((foolscaplaw04_text.f t466).bind fun bt467 => ((value_Truth.f bt467.1 bt467.2.1 bt467.2.2.1 bt467.2.2.2.1 bt467.2.2.2.2).bind fun bt472 => ((value_Fold.f x0).bind fun t474 => ((value_Fold.f t474).bind fun t475 => ((value_Fold.f x0).bind fun t476 => (if t475.toList = t476.toList then (if ((bt457.1 == 0) == (t445.toList == t446.toList)) = true then (if bt457.2 = 0 then ((foolscaplaw04_text.f x0).bind fun bt477 => ((foolscaplaw04_text.f x1).bind fun bt482 => ((value_Alike.f k bt477.1 bt477.2.1 bt477.2.2.1 bt477.2.2.2.1 bt477.2.2.2.2 bt482.1 bt482.2.1 bt482.2.2.1 bt482.2.2.2.1 bt482.2.2.2.2).bind fun t487 => (if (t487 == (t445.toList == t446.toList)) = true then (if (bt464.1 == bt472.1) = true then (if bt464.2 = bt472.2 then ((foolscaplaw04_lives.f k).bind fun t488 => (some t488)) else (none)) else (none)) else (none))))) else (none)) else (none)) else (none)))))))))))))))
def foolscaplaw04_ValueFolds.f (k : Nat) (a0 : ByteArray) (a1 : ByteArray) : Option (Bool) := if (a0.size : Int) > 255 then (foolscaplaw04_ValueFolds.j0 k a0 a1 true) else (foolscaplaw04_ValueFolds.j0 k a0 a1 (decide ((a1.size : Int) > 255)))
set_option maxHeartbeats 8000000 in
set_option maxRecDepth 100000 in
theorem foolscaplaw04_ValueFolds.calls (k : Nat) (a0 : ByteArray) (a1 : ByteArray) (r : Bool) (w : World) (h : foolscaplaw04_ValueFolds.f k a0 a1 = some r) (hL0 : Aside0 (LaidW w)) :
    Calls Tryz.prog 10 #[.string a0, .string a1] w fun e w' => e = .returned (.bool r) ∧ Below w.heap.size w w' := by
  have HB := Aside0.mk (Below.refl w.heap.size w)
  have H : (if (a0.size : Int) > 255 then (foolscaplaw04_ValueFolds.j0 k a0 a1 true) else (foolscaplaw04_ValueFolds.j0 k a0 a1 (decide ((a1.size : Int) > 255)))) = some r := h
  clear h
  have HC3 := Aside0.mk H
  clear H
  go_enter Tryz.func10, Tryz.ntmps10
  go_upto_region 1 with (fail)
  go_cut [19] (fun v19 wc => ∃ (kq : Nat) (x19_2 : Bool), v19 = .bool x19_2 ∧ Aside0 (foolscaplaw04_ValueFolds.j0 kq a0 a1 x19_2 = some r) ∧ Aside0 (kq ≤ k) ∧ Aside0 (Below w.heap.size w wc))
  case first =>
    have H := HC3.out
    clear HC3
    by_cases c4 : (a0.size : Int) > 255
    · rw [if_pos c4] at H
      have c4b0 : decide (255 < (a0.size : Int)) = true := decide_eq_true c4
      have c4b1 : decide (255 < a0.size) = true := decide_eq_true (by omega)
      clear c4
      (first | rw [c4b0] | (simp only [i64_w, i32_w]; rw [c4b0]) | skip)
      have H' := Aside0.mk H
      clear H
      go_wp2
      go_meet
      case rel => exact ⟨_, (true), (by first | rfl | (simp; done) | (simp [*]; done)), H', ⟨by first | omega | exact Nat.le_refl _⟩, ⟨by repeat (first | (with_reducible first | exact HB.out | apply below_alloc | apply pw_below_drewN | apply below_drew1) | exact HB.out)⟩⟩
    · rw [if_neg c4] at H
      have c4b0 : decide (255 < (a0.size : Int)) = false := decide_eq_false c4
      have c4b1 : decide (255 < a0.size) = false := decide_eq_false (by omega)
      clear c4
      (first | rw [c4b0] | (simp only [i64_w, i32_w]; rw [c4b0]) | skip)
      have H' := Aside0.mk H
      clear H
      go_wp2
      go_meet
      case rel => exact ⟨_, (decide ((a1.size : Int) > 255)), (by first | rfl | (simp; done) | (simp [*]; done)), H', ⟨by first | omega | exact Nat.le_refl _⟩, ⟨by repeat (first | (with_reducible first | exact HB.out | apply below_alloc | apply pw_below_drewN | apply below_drew1) | exact HB.out)⟩⟩
  case rest =>
    clear HC3
    try clear c1
    try clear p2
    try clear c4
    try clear c4b0
    try clear c4b1
    obtain ⟨kq, x19_2, rfl, HA, HJ2, HB⟩ := hcut
    cases kq with
    | zero => exact absurd HA.out (by simp [foolscaplaw04_ValueFolds.j0])
    | succ kj2 =>
      have H := HA.out
      clear HA
      simp only [foolscaplaw04_ValueFolds.j0] at H
      by_cases c5 : x19_2 = true
      · subst c5
        have H1 : ((value_Fold.f a0).bind fun t440 => ((value_Fold.f t440).bind fun t441 => ((value_Fold.f a0).bind fun t442 => (if t441.toList = t442.toList then ((value_Fold.f a0).bind fun t443 => (if (t443.size : Int) = (a0.size : Int) then ((foolscaplaw04_lives.f kj2).bind fun t444 => (some t444)) else (none))) else (none))))) = some r := by rw [if_pos rfl] at H; exact H
        clear H
        have H := H1
        clear H1
        replace H := Option.bind_eq_some_iff.mp H
        obtain ⟨t440, A60, H⟩ := H
        replace H : ((value_Fold.f t440).bind fun t441 => ((value_Fold.f a0).bind fun t442 => (if t441.toList = t442.toList then ((value_Fold.f a0).bind fun t443 => (if (t443.size : Int) = (a0.size : Int) then ((foolscaplaw04_lives.f kj2).bind fun t444 => (some t444)) else (none))) else (none)))) = some r := H
        have A6 := Aside0.mk A60
        clear A60
        replace H := Option.bind_eq_some_iff.mp H
        obtain ⟨t441, A70, H⟩ := H
        replace H : ((value_Fold.f a0).bind fun t442 => (if t441.toList = t442.toList then ((value_Fold.f a0).bind fun t443 => (if (t443.size : Int) = (a0.size : Int) then ((foolscaplaw04_lives.f kj2).bind fun t444 => (some t444)) else (none))) else (none))) = some r := H
        have A7 := Aside0.mk A70
        clear A70
        replace H := Option.bind_eq_some_iff.mp H
        obtain ⟨t442, A80, H⟩ := H
        replace H : (if t441.toList = t442.toList then ((value_Fold.f a0).bind fun t443 => (if (t443.size : Int) = (a0.size : Int) then ((foolscaplaw04_lives.f kj2).bind fun t444 => (some t444)) else (none))) else (none)) = some r := H
        have A8 := Aside0.mk A80
        clear A80
        by_cases c9 : t441.toList = t442.toList
        · rw [if_pos c9] at H
          have c9b0 : (t441.toList == t442.toList) = true := beq_iff_eq.mpr c9
          have c9b1 : (t441.toList != t442.toList) = false := bne_eq_false_iff_eq.mpr c9
          clear c9
          replace H := Option.bind_eq_some_iff.mp H
          obtain ⟨t443, A100, H⟩ := H
          replace H : (if (t443.size : Int) = (a0.size : Int) then ((foolscaplaw04_lives.f kj2).bind fun t444 => (some t444)) else (none)) = some r := H
          have A10 := Aside0.mk A100
          clear A100
          by_cases c11 : (t443.size : Int) = (a0.size : Int)
          · rw [if_pos c11] at H
            have c11b0 : ((t443.size : Int) == (a0.size : Int)) = true := beq_iff_eq.mpr c11
            have c11b1 : ((t443.size : Int) != (a0.size : Int)) = false := bne_eq_false_iff_eq.mpr c11
            have c11b2 : (t443.size == a0.size) = true := by first | simpa using c11 | (simp at c11 ⊢; omega)
            clear c11
            replace H := Option.bind_eq_some_iff.mp H
            obtain ⟨t444, A120, H⟩ := H
            replace H : (some t444) = some r := H
            have A12 := Aside0.mk A120
            clear A120
            obtain rfl := Option.some.inj H
            go_wp2_with (first | ((with_reducible refine gate_callee (f := 15) rfl ?_); refine goesL_ (some 21) rfl rfl Tryz.func15 (by kernel_rfl) rfl #[.string a0] rfl (by (try simp only [List.map_toArray, List.map_cons, List.map_nil]); first | done | rfl | (simp only [List.length_drop, List.length_take]; rfl) | (simp only [ByteArray.size_append, Int.natCast_add]; done) | (simp only [ByteArray.size_append, Int.natCast_add]; rfl) | (simp only [Array.mk.injEq, List.cons.injEq, Value.int.injEq, true_and, and_true]; (try simp only [mx, mn, wrap64] at *); omega)) ?_; (with_reducible refine (value_Fold.calls a0 t440 _ A6.out).mono ?_); rintro e w13 ⟨rfl, hb⟩; refine ⟨_, rfl, ?_⟩; have n0_ := Aside0.mk (below_step (by repeat (first | (with_reducible first | exact HB.out | apply below_alloc | apply pw_below_drewN | apply below_drew1) | exact HB.out)) hb); clear HB; have HB := n0_; clear n0_; (try clear hb); (try clear hb2); (try clear hk); (try clear hi)) | ((with_reducible refine gate_callee (f := 15) rfl ?_); refine goesL_ (some 22) rfl rfl Tryz.func15 (by kernel_rfl) rfl #[.string t440] rfl (by (try simp only [List.map_toArray, List.map_cons, List.map_nil]); first | done | rfl | (simp only [List.length_drop, List.length_take]; rfl) | (simp only [ByteArray.size_append, Int.natCast_add]; done) | (simp only [ByteArray.size_append, Int.natCast_add]; rfl) | (simp only [Array.mk.injEq, List.cons.injEq, Value.int.injEq, true_and, and_true]; (try simp only [mx, mn, wrap64] at *); omega)) ?_; (with_reducible refine (value_Fold.calls t440 t441 _ A7.out).mono ?_); rintro e w14 ⟨rfl, hb⟩; refine ⟨_, rfl, ?_⟩; have n0_ := Aside0.mk (below_step (by repeat (first | (with_reducible first | exact HB.out | apply below_alloc | apply pw_below_drewN | apply below_drew1) | exact HB.out)) hb); clear HB; have HB := n0_; clear n0_; (try clear hb); (try clear hb2); (try clear hk); (try clear hi)) | ((with_reducible refine gate_callee (f := 15) rfl ?_); refine goesL_ (some 24) rfl rfl Tryz.func15 (by kernel_rfl) rfl #[.string a0] rfl (by (try simp only [List.map_toArray, List.map_cons, List.map_nil]); first | done | rfl | (simp only [List.length_drop, List.length_take]; rfl) | (simp only [ByteArray.size_append, Int.natCast_add]; done) | (simp only [ByteArray.size_append, Int.natCast_add]; rfl) | (simp only [Array.mk.injEq, List.cons.injEq, Value.int.injEq, true_and, and_true]; (try simp only [mx, mn, wrap64] at *); omega)) ?_; (with_reducible refine (value_Fold.calls a0 t442 _ A8.out).mono ?_); rintro e w15 ⟨rfl, hb⟩; refine ⟨_, rfl, ?_⟩; have n0_ := Aside0.mk (below_step (by repeat (first | (with_reducible first | exact HB.out | apply below_alloc | apply pw_below_drewN | apply below_drew1) | exact HB.out)) hb); clear HB; have HB := n0_; clear n0_; (try clear hb); (try clear hb2); (try clear hk); (try clear hi)) | (go_at_call 15; (with_reducible refine (value_Fold.calls a0 t443 _ A10.out).mono ?_); rintro e w16 ⟨rfl, hb⟩; have n0_ := Aside0.mk (below_step (by repeat (first | (with_reducible first | exact HB.out | apply below_alloc | apply pw_below_drewN | apply below_drew1) | exact HB.out)) hb); clear HB; have HB := n0_; clear n0_; (try clear hb); (try clear hb2); (try clear hk); (try clear hi)) | (go_at_call 17; (with_reducible refine (foolscaplaw04_lives.calls kj2  t444 _ A12.out (LaidAt hL0 (by repeat (first | (with_reducible first | exact HB.out | apply below_alloc | apply pw_below_drewN | apply below_drew1) | exact HB.out)))).mono ?_); rintro e w17 ⟨rfl, hb⟩; have n0_ := Aside0.mk (below_step (by repeat (first | (with_reducible first | exact HB.out | apply below_alloc | apply pw_below_drewN | apply below_drew1) | exact HB.out)) hb); clear HB; have HB := n0_; clear n0_; (try clear hb); (try clear hb2); (try clear hk); (try clear hi)))
            go_ret
            exact ⟨by first | rfl | (simp [errW_none, errW_some] <;> rfl) | (simp [*, errW_none, errW_some] <;> rfl), by repeat (first | (with_reducible first | exact HB.out | apply below_alloc | apply pw_below_drewN | apply below_drew1) | exact HB.out)⟩
          · rw [if_neg c11] at H
            exact absurd H (by simp)
        · rw [if_neg c9] at H
          exact absurd H (by simp)
      · replace c5 := Bool.eq_false_iff.mpr c5
        subst c5
        have H1 : ((value_Fold.f a0).bind fun t445 => ((value_Fold.f a1).bind fun t446 => ((foolscaplaw04_text.f a0).bind fun bt447 => ((foolscaplaw04_text.f a1).bind fun bt452 => ((value_Compare.f kj2 bt447.1 bt447.2.1 bt447.2.2.1 bt447.2.2.2.1 bt447.2.2.2.2 bt452.1 bt452.2.1 bt452.2.2.1 bt452.2.2.2.1 bt452.2.2.2.2).bind fun bt457 => ((foolscaplaw04_text.f a0).bind fun bt459 => ((value_Truth.f bt459.1 bt459.2.1 bt459.2.2.1 bt459.2.2.2.1 bt459.2.2.2.2).bind fun bt464 => ((value_Fold.f a0).bind fun t466 => ((foolscaplaw04_text.f t466).bind fun bt467 => ((value_Truth.f bt467.1 bt467.2.1 bt467.2.2.1 bt467.2.2.2.1 bt467.2.2.2.2).bind fun bt472 => ((value_Fold.f a0).bind fun t474 => ((value_Fold.f t474).bind fun t475 => ((value_Fold.f a0).bind fun t476 => (if t475.toList = t476.toList then (if ((bt457.1 == 0) == (t445.toList == t446.toList)) = true then (if bt457.2 = 0 then ((foolscaplaw04_text.f a0).bind fun bt477 => ((foolscaplaw04_text.f a1).bind fun bt482 => ((value_Alike.f kj2 bt477.1 bt477.2.1 bt477.2.2.1 bt477.2.2.2.1 bt477.2.2.2.2 bt482.1 bt482.2.1 bt482.2.2.1 bt482.2.2.2.1 bt482.2.2.2.2).bind fun t487 => (if (t487 == (t445.toList == t446.toList)) = true then (if (bt464.1 == bt472.1) = true then (if bt464.2 = bt472.2 then ((foolscaplaw04_lives.f kj2).bind fun t488 => (some t488)) else (none)) else (none)) else (none))))) else (none)) else (none)) else (none))))))))))))))) = some r := by rw [if_neg (show ¬ (false = true) by decide)] at H; exact H
        clear H
        have H := H1
        clear H1
        replace H := Option.bind_eq_some_iff.mp H
        obtain ⟨t445, A180, H⟩ := H
        replace H : ((value_Fold.f a1).bind fun t446 => ((foolscaplaw04_text.f a0).bind fun bt447 => ((foolscaplaw04_text.f a1).bind fun bt452 => ((value_Compare.f kj2 bt447.1 bt447.2.1 bt447.2.2.1 bt447.2.2.2.1 bt447.2.2.2.2 bt452.1 bt452.2.1 bt452.2.2.1 bt452.2.2.2.1 bt452.2.2.2.2).bind fun bt457 => ((foolscaplaw04_text.f a0).bind fun bt459 => ((value_Truth.f bt459.1 bt459.2.1 bt459.2.2.1 bt459.2.2.2.1 bt459.2.2.2.2).bind fun bt464 => ((value_Fold.f a0).bind fun t466 => ((foolscaplaw04_text.f t466).bind fun bt467 => ((value_Truth.f bt467.1 bt467.2.1 bt467.2.2.1 bt467.2.2.2.1 bt467.2.2.2.2).bind fun bt472 => ((value_Fold.f a0).bind fun t474 => ((value_Fold.f t474).bind fun t475 => ((value_Fold.f a0).bind fun t476 => (if t475.toList = t476.toList then (if ((bt457.1 == 0) == (t445.toList == t446.toList)) = true then (if bt457.2 = 0 then ((foolscaplaw04_text.f a0).bind fun bt477 => ((foolscaplaw04_text.f a1).bind fun bt482 => ((value_Alike.f kj2 bt477.1 bt477.2.1 bt477.2.2.1 bt477.2.2.2.1 bt477.2.2.2.2 bt482.1 bt482.2.1 bt482.2.2.1 bt482.2.2.2.1 bt482.2.2.2.2).bind fun t487 => (if (t487 == (t445.toList == t446.toList)) = true then (if (bt464.1 == bt472.1) = true then (if bt464.2 = bt472.2 then ((foolscaplaw04_lives.f kj2).bind fun t488 => (some t488)) else (none)) else (none)) else (none))))) else (none)) else (none)) else (none)))))))))))))) = some r := H
        have A18 := Aside0.mk A180
        clear A180
        replace H := Option.bind_eq_some_iff.mp H
        obtain ⟨t446, A190, H⟩ := H
        replace H : ((foolscaplaw04_text.f a0).bind fun bt447 => ((foolscaplaw04_text.f a1).bind fun bt452 => ((value_Compare.f kj2 bt447.1 bt447.2.1 bt447.2.2.1 bt447.2.2.2.1 bt447.2.2.2.2 bt452.1 bt452.2.1 bt452.2.2.1 bt452.2.2.2.1 bt452.2.2.2.2).bind fun bt457 => ((foolscaplaw04_text.f a0).bind fun bt459 => ((value_Truth.f bt459.1 bt459.2.1 bt459.2.2.1 bt459.2.2.2.1 bt459.2.2.2.2).bind fun bt464 => ((value_Fold.f a0).bind fun t466 => ((foolscaplaw04_text.f t466).bind fun bt467 => ((value_Truth.f bt467.1 bt467.2.1 bt467.2.2.1 bt467.2.2.2.1 bt467.2.2.2.2).bind fun bt472 => ((value_Fold.f a0).bind fun t474 => ((value_Fold.f t474).bind fun t475 => ((value_Fold.f a0).bind fun t476 => (if t475.toList = t476.toList then (if ((bt457.1 == 0) == (t445.toList == t446.toList)) = true then (if bt457.2 = 0 then ((foolscaplaw04_text.f a0).bind fun bt477 => ((foolscaplaw04_text.f a1).bind fun bt482 => ((value_Alike.f kj2 bt477.1 bt477.2.1 bt477.2.2.1 bt477.2.2.2.1 bt477.2.2.2.2 bt482.1 bt482.2.1 bt482.2.2.1 bt482.2.2.2.1 bt482.2.2.2.2).bind fun t487 => (if (t487 == (t445.toList == t446.toList)) = true then (if (bt464.1 == bt472.1) = true then (if bt464.2 = bt472.2 then ((foolscaplaw04_lives.f kj2).bind fun t488 => (some t488)) else (none)) else (none)) else (none))))) else (none)) else (none)) else (none))))))))))))) = some r := H
        have A19 := Aside0.mk A190
        clear A190
        replace H := Option.bind_eq_some_iff.mp H
        obtain ⟨⟨t447, t448, t449, t450, t451⟩, A200, H⟩ := H
        replace H : ((foolscaplaw04_text.f a1).bind fun bt452 => ((value_Compare.f kj2 t447 t448 t449 t450 t451 bt452.1 bt452.2.1 bt452.2.2.1 bt452.2.2.2.1 bt452.2.2.2.2).bind fun bt457 => ((foolscaplaw04_text.f a0).bind fun bt459 => ((value_Truth.f bt459.1 bt459.2.1 bt459.2.2.1 bt459.2.2.2.1 bt459.2.2.2.2).bind fun bt464 => ((value_Fold.f a0).bind fun t466 => ((foolscaplaw04_text.f t466).bind fun bt467 => ((value_Truth.f bt467.1 bt467.2.1 bt467.2.2.1 bt467.2.2.2.1 bt467.2.2.2.2).bind fun bt472 => ((value_Fold.f a0).bind fun t474 => ((value_Fold.f t474).bind fun t475 => ((value_Fold.f a0).bind fun t476 => (if t475.toList = t476.toList then (if ((bt457.1 == 0) == (t445.toList == t446.toList)) = true then (if bt457.2 = 0 then ((foolscaplaw04_text.f a0).bind fun bt477 => ((foolscaplaw04_text.f a1).bind fun bt482 => ((value_Alike.f kj2 bt477.1 bt477.2.1 bt477.2.2.1 bt477.2.2.2.1 bt477.2.2.2.2 bt482.1 bt482.2.1 bt482.2.2.1 bt482.2.2.2.1 bt482.2.2.2.2).bind fun t487 => (if (t487 == (t445.toList == t446.toList)) = true then (if (bt464.1 == bt472.1) = true then (if bt464.2 = bt472.2 then ((foolscaplaw04_lives.f kj2).bind fun t488 => (some t488)) else (none)) else (none)) else (none))))) else (none)) else (none)) else (none)))))))))))) = some r := H
        have A20 := Aside0.mk A200
        clear A200
        replace H := Option.bind_eq_some_iff.mp H
        obtain ⟨⟨t452, t453, t454, t455, t456⟩, A210, H⟩ := H
        replace H : ((value_Compare.f kj2 t447 t448 t449 t450 t451 t452 t453 t454 t455 t456).bind fun bt457 => ((foolscaplaw04_text.f a0).bind fun bt459 => ((value_Truth.f bt459.1 bt459.2.1 bt459.2.2.1 bt459.2.2.2.1 bt459.2.2.2.2).bind fun bt464 => ((value_Fold.f a0).bind fun t466 => ((foolscaplaw04_text.f t466).bind fun bt467 => ((value_Truth.f bt467.1 bt467.2.1 bt467.2.2.1 bt467.2.2.2.1 bt467.2.2.2.2).bind fun bt472 => ((value_Fold.f a0).bind fun t474 => ((value_Fold.f t474).bind fun t475 => ((value_Fold.f a0).bind fun t476 => (if t475.toList = t476.toList then (if ((bt457.1 == 0) == (t445.toList == t446.toList)) = true then (if bt457.2 = 0 then ((foolscaplaw04_text.f a0).bind fun bt477 => ((foolscaplaw04_text.f a1).bind fun bt482 => ((value_Alike.f kj2 bt477.1 bt477.2.1 bt477.2.2.1 bt477.2.2.2.1 bt477.2.2.2.2 bt482.1 bt482.2.1 bt482.2.2.1 bt482.2.2.2.1 bt482.2.2.2.2).bind fun t487 => (if (t487 == (t445.toList == t446.toList)) = true then (if (bt464.1 == bt472.1) = true then (if bt464.2 = bt472.2 then ((foolscaplaw04_lives.f kj2).bind fun t488 => (some t488)) else (none)) else (none)) else (none))))) else (none)) else (none)) else (none))))))))))) = some r := H
        have A21 := Aside0.mk A210
        clear A210
        replace H := Option.bind_eq_some_iff.mp H
        obtain ⟨⟨t457, t458⟩, A220, H⟩ := H
        replace H : ((foolscaplaw04_text.f a0).bind fun bt459 => ((value_Truth.f bt459.1 bt459.2.1 bt459.2.2.1 bt459.2.2.2.1 bt459.2.2.2.2).bind fun bt464 => ((value_Fold.f a0).bind fun t466 => ((foolscaplaw04_text.f t466).bind fun bt467 => ((value_Truth.f bt467.1 bt467.2.1 bt467.2.2.1 bt467.2.2.2.1 bt467.2.2.2.2).bind fun bt472 => ((value_Fold.f a0).bind fun t474 => ((value_Fold.f t474).bind fun t475 => ((value_Fold.f a0).bind fun t476 => (if t475.toList = t476.toList then (if ((t457 == 0) == (t445.toList == t446.toList)) = true then (if t458 = 0 then ((foolscaplaw04_text.f a0).bind fun bt477 => ((foolscaplaw04_text.f a1).bind fun bt482 => ((value_Alike.f kj2 bt477.1 bt477.2.1 bt477.2.2.1 bt477.2.2.2.1 bt477.2.2.2.2 bt482.1 bt482.2.1 bt482.2.2.1 bt482.2.2.2.1 bt482.2.2.2.2).bind fun t487 => (if (t487 == (t445.toList == t446.toList)) = true then (if (bt464.1 == bt472.1) = true then (if bt464.2 = bt472.2 then ((foolscaplaw04_lives.f kj2).bind fun t488 => (some t488)) else (none)) else (none)) else (none))))) else (none)) else (none)) else (none)))))))))) = some r := H
        have A22 := Aside0.mk A220
        clear A220
        replace H := Option.bind_eq_some_iff.mp H
        obtain ⟨⟨t459, t460, t461, t462, t463⟩, A230, H⟩ := H
        replace H : ((value_Truth.f t459 t460 t461 t462 t463).bind fun bt464 => ((value_Fold.f a0).bind fun t466 => ((foolscaplaw04_text.f t466).bind fun bt467 => ((value_Truth.f bt467.1 bt467.2.1 bt467.2.2.1 bt467.2.2.2.1 bt467.2.2.2.2).bind fun bt472 => ((value_Fold.f a0).bind fun t474 => ((value_Fold.f t474).bind fun t475 => ((value_Fold.f a0).bind fun t476 => (if t475.toList = t476.toList then (if ((t457 == 0) == (t445.toList == t446.toList)) = true then (if t458 = 0 then ((foolscaplaw04_text.f a0).bind fun bt477 => ((foolscaplaw04_text.f a1).bind fun bt482 => ((value_Alike.f kj2 bt477.1 bt477.2.1 bt477.2.2.1 bt477.2.2.2.1 bt477.2.2.2.2 bt482.1 bt482.2.1 bt482.2.2.1 bt482.2.2.2.1 bt482.2.2.2.2).bind fun t487 => (if (t487 == (t445.toList == t446.toList)) = true then (if (bt464.1 == bt472.1) = true then (if bt464.2 = bt472.2 then ((foolscaplaw04_lives.f kj2).bind fun t488 => (some t488)) else (none)) else (none)) else (none))))) else (none)) else (none)) else (none))))))))) = some r := H
        have A23 := Aside0.mk A230
        clear A230
        replace H := Option.bind_eq_some_iff.mp H
        obtain ⟨⟨t464, t465⟩, A240, H⟩ := H
        replace H : ((value_Fold.f a0).bind fun t466 => ((foolscaplaw04_text.f t466).bind fun bt467 => ((value_Truth.f bt467.1 bt467.2.1 bt467.2.2.1 bt467.2.2.2.1 bt467.2.2.2.2).bind fun bt472 => ((value_Fold.f a0).bind fun t474 => ((value_Fold.f t474).bind fun t475 => ((value_Fold.f a0).bind fun t476 => (if t475.toList = t476.toList then (if ((t457 == 0) == (t445.toList == t446.toList)) = true then (if t458 = 0 then ((foolscaplaw04_text.f a0).bind fun bt477 => ((foolscaplaw04_text.f a1).bind fun bt482 => ((value_Alike.f kj2 bt477.1 bt477.2.1 bt477.2.2.1 bt477.2.2.2.1 bt477.2.2.2.2 bt482.1 bt482.2.1 bt482.2.2.1 bt482.2.2.2.1 bt482.2.2.2.2).bind fun t487 => (if (t487 == (t445.toList == t446.toList)) = true then (if (t464 == bt472.1) = true then (if t465 = bt472.2 then ((foolscaplaw04_lives.f kj2).bind fun t488 => (some t488)) else (none)) else (none)) else (none))))) else (none)) else (none)) else (none)))))))) = some r := H
        have A24 := Aside0.mk A240
        clear A240
        replace H := Option.bind_eq_some_iff.mp H
        obtain ⟨t466, A250, H⟩ := H
        replace H : ((foolscaplaw04_text.f t466).bind fun bt467 => ((value_Truth.f bt467.1 bt467.2.1 bt467.2.2.1 bt467.2.2.2.1 bt467.2.2.2.2).bind fun bt472 => ((value_Fold.f a0).bind fun t474 => ((value_Fold.f t474).bind fun t475 => ((value_Fold.f a0).bind fun t476 => (if t475.toList = t476.toList then (if ((t457 == 0) == (t445.toList == t446.toList)) = true then (if t458 = 0 then ((foolscaplaw04_text.f a0).bind fun bt477 => ((foolscaplaw04_text.f a1).bind fun bt482 => ((value_Alike.f kj2 bt477.1 bt477.2.1 bt477.2.2.1 bt477.2.2.2.1 bt477.2.2.2.2 bt482.1 bt482.2.1 bt482.2.2.1 bt482.2.2.2.1 bt482.2.2.2.2).bind fun t487 => (if (t487 == (t445.toList == t446.toList)) = true then (if (t464 == bt472.1) = true then (if t465 = bt472.2 then ((foolscaplaw04_lives.f kj2).bind fun t488 => (some t488)) else (none)) else (none)) else (none))))) else (none)) else (none)) else (none))))))) = some r := H
        have A25 := Aside0.mk A250
        clear A250
        replace H := Option.bind_eq_some_iff.mp H
        obtain ⟨⟨t467, t468, t469, t470, t471⟩, A260, H⟩ := H
        replace H : ((value_Truth.f t467 t468 t469 t470 t471).bind fun bt472 => ((value_Fold.f a0).bind fun t474 => ((value_Fold.f t474).bind fun t475 => ((value_Fold.f a0).bind fun t476 => (if t475.toList = t476.toList then (if ((t457 == 0) == (t445.toList == t446.toList)) = true then (if t458 = 0 then ((foolscaplaw04_text.f a0).bind fun bt477 => ((foolscaplaw04_text.f a1).bind fun bt482 => ((value_Alike.f kj2 bt477.1 bt477.2.1 bt477.2.2.1 bt477.2.2.2.1 bt477.2.2.2.2 bt482.1 bt482.2.1 bt482.2.2.1 bt482.2.2.2.1 bt482.2.2.2.2).bind fun t487 => (if (t487 == (t445.toList == t446.toList)) = true then (if (t464 == bt472.1) = true then (if t465 = bt472.2 then ((foolscaplaw04_lives.f kj2).bind fun t488 => (some t488)) else (none)) else (none)) else (none))))) else (none)) else (none)) else (none)))))) = some r := H
        have A26 := Aside0.mk A260
        clear A260
        replace H := Option.bind_eq_some_iff.mp H
        obtain ⟨⟨t472, t473⟩, A270, H⟩ := H
        replace H : ((value_Fold.f a0).bind fun t474 => ((value_Fold.f t474).bind fun t475 => ((value_Fold.f a0).bind fun t476 => (if t475.toList = t476.toList then (if ((t457 == 0) == (t445.toList == t446.toList)) = true then (if t458 = 0 then ((foolscaplaw04_text.f a0).bind fun bt477 => ((foolscaplaw04_text.f a1).bind fun bt482 => ((value_Alike.f kj2 bt477.1 bt477.2.1 bt477.2.2.1 bt477.2.2.2.1 bt477.2.2.2.2 bt482.1 bt482.2.1 bt482.2.2.1 bt482.2.2.2.1 bt482.2.2.2.2).bind fun t487 => (if (t487 == (t445.toList == t446.toList)) = true then (if (t464 == t472) = true then (if t465 = t473 then ((foolscaplaw04_lives.f kj2).bind fun t488 => (some t488)) else (none)) else (none)) else (none))))) else (none)) else (none)) else (none))))) = some r := H
        have A27 := Aside0.mk A270
        clear A270
        replace H := Option.bind_eq_some_iff.mp H
        obtain ⟨t474, A280, H⟩ := H
        replace H : ((value_Fold.f t474).bind fun t475 => ((value_Fold.f a0).bind fun t476 => (if t475.toList = t476.toList then (if ((t457 == 0) == (t445.toList == t446.toList)) = true then (if t458 = 0 then ((foolscaplaw04_text.f a0).bind fun bt477 => ((foolscaplaw04_text.f a1).bind fun bt482 => ((value_Alike.f kj2 bt477.1 bt477.2.1 bt477.2.2.1 bt477.2.2.2.1 bt477.2.2.2.2 bt482.1 bt482.2.1 bt482.2.2.1 bt482.2.2.2.1 bt482.2.2.2.2).bind fun t487 => (if (t487 == (t445.toList == t446.toList)) = true then (if (t464 == t472) = true then (if t465 = t473 then ((foolscaplaw04_lives.f kj2).bind fun t488 => (some t488)) else (none)) else (none)) else (none))))) else (none)) else (none)) else (none)))) = some r := H
        have A28 := Aside0.mk A280
        clear A280
        replace H := Option.bind_eq_some_iff.mp H
        obtain ⟨t475, A290, H⟩ := H
        replace H : ((value_Fold.f a0).bind fun t476 => (if t475.toList = t476.toList then (if ((t457 == 0) == (t445.toList == t446.toList)) = true then (if t458 = 0 then ((foolscaplaw04_text.f a0).bind fun bt477 => ((foolscaplaw04_text.f a1).bind fun bt482 => ((value_Alike.f kj2 bt477.1 bt477.2.1 bt477.2.2.1 bt477.2.2.2.1 bt477.2.2.2.2 bt482.1 bt482.2.1 bt482.2.2.1 bt482.2.2.2.1 bt482.2.2.2.2).bind fun t487 => (if (t487 == (t445.toList == t446.toList)) = true then (if (t464 == t472) = true then (if t465 = t473 then ((foolscaplaw04_lives.f kj2).bind fun t488 => (some t488)) else (none)) else (none)) else (none))))) else (none)) else (none)) else (none))) = some r := H
        have A29 := Aside0.mk A290
        clear A290
        replace H := Option.bind_eq_some_iff.mp H
        obtain ⟨t476, A300, H⟩ := H
        replace H : (if t475.toList = t476.toList then (if ((t457 == 0) == (t445.toList == t446.toList)) = true then (if t458 = 0 then ((foolscaplaw04_text.f a0).bind fun bt477 => ((foolscaplaw04_text.f a1).bind fun bt482 => ((value_Alike.f kj2 bt477.1 bt477.2.1 bt477.2.2.1 bt477.2.2.2.1 bt477.2.2.2.2 bt482.1 bt482.2.1 bt482.2.2.1 bt482.2.2.2.1 bt482.2.2.2.2).bind fun t487 => (if (t487 == (t445.toList == t446.toList)) = true then (if (t464 == t472) = true then (if t465 = t473 then ((foolscaplaw04_lives.f kj2).bind fun t488 => (some t488)) else (none)) else (none)) else (none))))) else (none)) else (none)) else (none)) = some r := H
        have A30 := Aside0.mk A300
        clear A300
        by_cases c31 : t475.toList = t476.toList
        · rw [if_pos c31] at H
          have c31b0 : (t475.toList == t476.toList) = true := beq_iff_eq.mpr c31
          have c31b1 : (t475.toList != t476.toList) = false := bne_eq_false_iff_eq.mpr c31
          clear c31
          by_cases c32 : ((t457 == 0) == (t445.toList == t446.toList)) = true
          · rw [if_pos c32] at H
            have c32b0 : ((t457 == 0) == (t445.toList == t446.toList)) = true := c32
            (try (have c32b1 : decide ((t457 == 0) = (t445.toList == t446.toList)) = true := by simpa using c32))
            (try (have c32b2 : ((t457 == 0) == (t445.toList == t446.toList)) = true := by simpa using c32))
            clear c32
            by_cases c33 : t458 = 0
            · rw [if_pos c33] at H
              have c33b0 : (t458 == 0) = true := beq_iff_eq.mpr c33
              have c33b1 : (t458 != 0) = false := bne_eq_false_iff_eq.mpr c33
              clear c33
              replace H := Option.bind_eq_some_iff.mp H
              obtain ⟨⟨t477, t478, t479, t480, t481⟩, A340, H⟩ := H
              replace H : ((foolscaplaw04_text.f a1).bind fun bt482 => ((value_Alike.f kj2 t477 t478 t479 t480 t481 bt482.1 bt482.2.1 bt482.2.2.1 bt482.2.2.2.1 bt482.2.2.2.2).bind fun t487 => (if (t487 == (t445.toList == t446.toList)) = true then (if (t464 == t472) = true then (if t465 = t473 then ((foolscaplaw04_lives.f kj2).bind fun t488 => (some t488)) else (none)) else (none)) else (none)))) = some r := H
              have A34 := Aside0.mk A340
              clear A340
              replace H := Option.bind_eq_some_iff.mp H
              obtain ⟨⟨t482, t483, t484, t485, t486⟩, A350, H⟩ := H
              replace H : ((value_Alike.f kj2 t477 t478 t479 t480 t481 t482 t483 t484 t485 t486).bind fun t487 => (if (t487 == (t445.toList == t446.toList)) = true then (if (t464 == t472) = true then (if t465 = t473 then ((foolscaplaw04_lives.f kj2).bind fun t488 => (some t488)) else (none)) else (none)) else (none))) = some r := H
              have A35 := Aside0.mk A350
              clear A350
              replace H := Option.bind_eq_some_iff.mp H
              obtain ⟨t487, A360, H⟩ := H
              replace H : (if (t487 == (t445.toList == t446.toList)) = true then (if (t464 == t472) = true then (if t465 = t473 then ((foolscaplaw04_lives.f kj2).bind fun t488 => (some t488)) else (none)) else (none)) else (none)) = some r := H
              have A36 := Aside0.mk A360
              clear A360
              by_cases c37 : (t487 == (t445.toList == t446.toList)) = true
              · rw [if_pos c37] at H
                have c37b0 : (t487 == (t445.toList == t446.toList)) = true := c37
                (try (have c37b1 : decide (t487 = (t445.toList == t446.toList)) = true := by simpa using c37))
                (try (have c37b2 : (t487 == (t445.toList == t446.toList)) = true := by simpa using c37))
                clear c37
                by_cases c38 : (t464 == t472) = true
                · rw [if_pos c38] at H
                  have c38b0 : (t464 == t472) = true := c38
                  (try (have c38b1 : decide (t464 = t472) = true := by simpa using c38))
                  (try (have c38b2 : (t464 == t472) = true := by simpa using c38))
                  clear c38
                  by_cases c39 : t465 = t473
                  · rw [if_pos c39] at H
                    have c39b0 : (t465 == t473) = true := beq_iff_eq.mpr c39
                    have c39b1 : (t465 != t473) = false := bne_eq_false_iff_eq.mpr c39
                    clear c39
                    replace H := Option.bind_eq_some_iff.mp H
                    obtain ⟨t488, A400, H⟩ := H
                    replace H : (some t488) = some r := H
                    have A40 := Aside0.mk A400
                    clear A400
                    obtain rfl := Option.some.inj H
                    go_wp2_with (first | ((with_reducible refine gate_callee (f := 15) rfl ?_); refine goesL_ (some 38) rfl rfl Tryz.func15 (by kernel_rfl) rfl #[.string a0] rfl (by (try simp only [List.map_toArray, List.map_cons, List.map_nil]); first | done | rfl | (simp only [List.length_drop, List.length_take]; rfl) | (simp only [ByteArray.size_append, Int.natCast_add]; done) | (simp only [ByteArray.size_append, Int.natCast_add]; rfl) | (simp only [Array.mk.injEq, List.cons.injEq, Value.int.injEq, true_and, and_true]; (try simp only [mx, mn, wrap64] at *); omega)) ?_; (with_reducible refine (value_Fold.calls a0 t445 _ A18.out).mono ?_); rintro e w41 ⟨rfl, hb⟩; refine ⟨_, rfl, ?_⟩; have n0_ := Aside0.mk (below_step (by repeat (first | (with_reducible first | exact HB.out | apply below_alloc | apply pw_below_drewN | apply below_drew1) | exact HB.out)) hb); clear HB; have HB := n0_; clear n0_; (try clear hb); (try clear hb2); (try clear hk); (try clear hi)) | ((with_reducible refine gate_callee (f := 15) rfl ?_); refine goesL_ (some 40) rfl rfl Tryz.func15 (by kernel_rfl) rfl #[.string a1] rfl (by (try simp only [List.map_toArray, List.map_cons, List.map_nil]); first | done | rfl | (simp only [List.length_drop, List.length_take]; rfl) | (simp only [ByteArray.size_append, Int.natCast_add]; done) | (simp only [ByteArray.size_append, Int.natCast_add]; rfl) | (simp only [Array.mk.injEq, List.cons.injEq, Value.int.injEq, true_and, and_true]; (try simp only [mx, mn, wrap64] at *); omega)) ?_; (with_reducible refine (value_Fold.calls a1 t446 _ A19.out).mono ?_); rintro e w42 ⟨rfl, hb⟩; refine ⟨_, rfl, ?_⟩; have n0_ := Aside0.mk (below_step (by repeat (first | (with_reducible first | exact HB.out | apply below_alloc | apply pw_below_drewN | apply below_drew1) | exact HB.out)) hb); clear HB; have HB := n0_; clear n0_; (try clear hb); (try clear hb2); (try clear hk); (try clear hi)) | ((with_reducible refine gate_callee (f := 32) rfl ?_); refine goesL_ (some 44) rfl rfl Tryz.func32 (by kernel_rfl) rfl #[.string a0] rfl (by (try simp only [List.map_toArray, List.map_cons, List.map_nil]); first | done | rfl | (simp only [List.length_drop, List.length_take]; rfl) | (simp only [ByteArray.size_append, Int.natCast_add]; done) | (simp only [ByteArray.size_append, Int.natCast_add]; rfl) | (simp only [Array.mk.injEq, List.cons.injEq, Value.int.injEq, true_and, and_true]; (try simp only [mx, mn, wrap64] at *); omega)) ?_; (with_reducible refine (foolscaplaw04_text.calls a0 t447 t448 t449 t450 t451 _ A20.out).mono ?_); rintro e w43 ⟨rfl, hb⟩; refine ⟨_, rfl, ?_⟩; have n0_ := Aside0.mk (below_step (by repeat (first | (with_reducible first | exact HB.out | apply below_alloc | apply pw_below_drewN | apply below_drew1) | exact HB.out)) hb); clear HB; have HB := n0_; clear n0_; (try clear hb); (try clear hb2); (try clear hk); (try clear hi)) | ((with_reducible refine gate_callee (f := 32) rfl ?_); refine goesL_ (some 46) rfl rfl Tryz.func32 (by kernel_rfl) rfl #[.string a1] rfl (by (try simp only [List.map_toArray, List.map_cons, List.map_nil]); first | done | rfl | (simp only [List.length_drop, List.length_take]; rfl) | (simp only [ByteArray.size_append, Int.natCast_add]; done) | (simp only [ByteArray.size_append, Int.natCast_add]; rfl) | (simp only [Array.mk.injEq, List.cons.injEq, Value.int.injEq, true_and, and_true]; (try simp only [mx, mn, wrap64] at *); omega)) ?_; (with_reducible refine (foolscaplaw04_text.calls a1 t452 t453 t454 t455 t456 _ A21.out).mono ?_); rintro e w44 ⟨rfl, hb⟩; refine ⟨_, rfl, ?_⟩; have n0_ := Aside0.mk (below_step (by repeat (first | (with_reducible first | exact HB.out | apply below_alloc | apply pw_below_drewN | apply below_drew1) | exact HB.out)) hb); clear HB; have HB := n0_; clear n0_; (try clear hb); (try clear hb2); (try clear hk); (try clear hi)) | ((with_reducible refine gate_callee (f := 19) rfl ?_); refine goesL_ (some 47) rfl rfl Tryz.func19 (by kernel_rfl) rfl #[.agg #[.int .i64 t447, .int .i64 t448, .string t449, .bool t450, .int .i64 t451], .agg #[.int .i64 t452, .int .i64 t453, .string t454, .bool t455, .int .i64 t456]] rfl (by (try simp only [List.map_toArray, List.map_cons, List.map_nil]); first | done | rfl | (simp only [List.length_drop, List.length_take]; rfl) | (simp only [ByteArray.size_append, Int.natCast_add]; done) | (simp only [ByteArray.size_append, Int.natCast_add]; rfl) | (simp only [Array.mk.injEq, List.cons.injEq, Value.int.injEq, true_and, and_true]; (try simp only [mx, mn, wrap64] at *); omega)) ?_; (with_reducible refine (value_Compare.calls kj2 t447 t448 t449 t450 t451 t452 t453 t454 t455 t456 t457 t458 _ A22.out).mono ?_); rintro e w45 ⟨rfl, hb⟩; refine ⟨_, rfl, ?_⟩; have n0_ := Aside0.mk (below_step (by repeat (first | (with_reducible first | exact HB.out | apply below_alloc | apply pw_below_drewN | apply below_drew1) | exact HB.out)) hb); clear HB; have HB := n0_; clear n0_; (try clear hb); (try clear hb2); (try clear hk); (try clear hi)) | ((with_reducible refine gate_callee (f := 32) rfl ?_); refine goesL_ (some 52) rfl rfl Tryz.func32 (by kernel_rfl) rfl #[.string a0] rfl (by (try simp only [List.map_toArray, List.map_cons, List.map_nil]); first | done | rfl | (simp only [List.length_drop, List.length_take]; rfl) | (simp only [ByteArray.size_append, Int.natCast_add]; done) | (simp only [ByteArray.size_append, Int.natCast_add]; rfl) | (simp only [Array.mk.injEq, List.cons.injEq, Value.int.injEq, true_and, and_true]; (try simp only [mx, mn, wrap64] at *); omega)) ?_; (with_reducible refine (foolscaplaw04_text.calls a0 t459 t460 t461 t462 t463 _ A23.out).mono ?_); rintro e w46 ⟨rfl, hb⟩; refine ⟨_, rfl, ?_⟩; have n0_ := Aside0.mk (below_step (by repeat (first | (with_reducible first | exact HB.out | apply below_alloc | apply pw_below_drewN | apply below_drew1) | exact HB.out)) hb); clear HB; have HB := n0_; clear n0_; (try clear hb); (try clear hb2); (try clear hk); (try clear hi)) | ((with_reducible refine gate_callee (f := 28) rfl ?_); refine goesL_ (some 53) rfl rfl Tryz.func28 (by kernel_rfl) rfl #[.agg #[.int .i64 t459, .int .i64 t460, .string t461, .bool t462, .int .i64 t463]] rfl (by (try simp only [List.map_toArray, List.map_cons, List.map_nil]); first | done | rfl | (simp only [List.length_drop, List.length_take]; rfl) | (simp only [ByteArray.size_append, Int.natCast_add]; done) | (simp only [ByteArray.size_append, Int.natCast_add]; rfl) | (simp only [Array.mk.injEq, List.cons.injEq, Value.int.injEq, true_and, and_true]; (try simp only [mx, mn, wrap64] at *); omega)) ?_; (with_reducible refine (value_Truth.calls t459 t460 t461 t462 t463 t464 t465 _ A24.out).mono ?_); rintro e w47 ⟨rfl, hb⟩; refine ⟨_, rfl, ?_⟩; have n0_ := Aside0.mk (below_step (by repeat (first | (with_reducible first | exact HB.out | apply below_alloc | apply pw_below_drewN | apply below_drew1) | exact HB.out)) hb); clear HB; have HB := n0_; clear n0_; (try clear hb); (try clear hb2); (try clear hk); (try clear hi)) | ((with_reducible refine gate_callee (f := 15) rfl ?_); refine goesL_ (some 58) rfl rfl Tryz.func15 (by kernel_rfl) rfl #[.string a0] rfl (by (try simp only [List.map_toArray, List.map_cons, List.map_nil]); first | done | rfl | (simp only [List.length_drop, List.length_take]; rfl) | (simp only [ByteArray.size_append, Int.natCast_add]; done) | (simp only [ByteArray.size_append, Int.natCast_add]; rfl) | (simp only [Array.mk.injEq, List.cons.injEq, Value.int.injEq, true_and, and_true]; (try simp only [mx, mn, wrap64] at *); omega)) ?_; (with_reducible refine (value_Fold.calls a0 t466 _ A25.out).mono ?_); rintro e w48 ⟨rfl, hb⟩; refine ⟨_, rfl, ?_⟩; have n0_ := Aside0.mk (below_step (by repeat (first | (with_reducible first | exact HB.out | apply below_alloc | apply pw_below_drewN | apply below_drew1) | exact HB.out)) hb); clear HB; have HB := n0_; clear n0_; (try clear hb); (try clear hb2); (try clear hk); (try clear hi)) | ((with_reducible refine gate_callee (f := 32) rfl ?_); refine goesL_ (some 59) rfl rfl Tryz.func32 (by kernel_rfl) rfl #[.string t466] rfl (by (try simp only [List.map_toArray, List.map_cons, List.map_nil]); first | done | rfl | (simp only [List.length_drop, List.length_take]; rfl) | (simp only [ByteArray.size_append, Int.natCast_add]; done) | (simp only [ByteArray.size_append, Int.natCast_add]; rfl) | (simp only [Array.mk.injEq, List.cons.injEq, Value.int.injEq, true_and, and_true]; (try simp only [mx, mn, wrap64] at *); omega)) ?_; (with_reducible refine (foolscaplaw04_text.calls t466 t467 t468 t469 t470 t471 _ A26.out).mono ?_); rintro e w49 ⟨rfl, hb⟩; refine ⟨_, rfl, ?_⟩; have n0_ := Aside0.mk (below_step (by repeat (first | (with_reducible first | exact HB.out | apply below_alloc | apply pw_below_drewN | apply below_drew1) | exact HB.out)) hb); clear HB; have HB := n0_; clear n0_; (try clear hb); (try clear hb2); (try clear hk); (try clear hi)) | ((with_reducible refine gate_callee (f := 28) rfl ?_); refine goesL_ (some 60) rfl rfl Tryz.func28 (by kernel_rfl) rfl #[.agg #[.int .i64 t467, .int .i64 t468, .string t469, .bool t470, .int .i64 t471]] rfl (by (try simp only [List.map_toArray, List.map_cons, List.map_nil]); first | done | rfl | (simp only [List.length_drop, List.length_take]; rfl) | (simp only [ByteArray.size_append, Int.natCast_add]; done) | (simp only [ByteArray.size_append, Int.natCast_add]; rfl) | (simp only [Array.mk.injEq, List.cons.injEq, Value.int.injEq, true_and, and_true]; (try simp only [mx, mn, wrap64] at *); omega)) ?_; (with_reducible refine (value_Truth.calls t467 t468 t469 t470 t471 t472 t473 _ A27.out).mono ?_); rintro e w50 ⟨rfl, hb⟩; refine ⟨_, rfl, ?_⟩; have n0_ := Aside0.mk (below_step (by repeat (first | (with_reducible first | exact HB.out | apply below_alloc | apply pw_below_drewN | apply below_drew1) | exact HB.out)) hb); clear HB; have HB := n0_; clear n0_; (try clear hb); (try clear hb2); (try clear hk); (try clear hi)) | ((with_reducible refine gate_callee (f := 15) rfl ?_); refine goesL_ (some 64) rfl rfl Tryz.func15 (by kernel_rfl) rfl #[.string a0] rfl (by (try simp only [List.map_toArray, List.map_cons, List.map_nil]); first | done | rfl | (simp only [List.length_drop, List.length_take]; rfl) | (simp only [ByteArray.size_append, Int.natCast_add]; done) | (simp only [ByteArray.size_append, Int.natCast_add]; rfl) | (simp only [Array.mk.injEq, List.cons.injEq, Value.int.injEq, true_and, and_true]; (try simp only [mx, mn, wrap64] at *); omega)) ?_; (with_reducible refine (value_Fold.calls a0 t474 _ A28.out).mono ?_); rintro e w51 ⟨rfl, hb⟩; refine ⟨_, rfl, ?_⟩; have n0_ := Aside0.mk (below_step (by repeat (first | (with_reducible first | exact HB.out | apply below_alloc | apply pw_below_drewN | apply below_drew1) | exact HB.out)) hb); clear HB; have HB := n0_; clear n0_; (try clear hb); (try clear hb2); (try clear hk); (try clear hi)) | ((with_reducible refine gate_callee (f := 15) rfl ?_); refine goesL_ (some 65) rfl rfl Tryz.func15 (by kernel_rfl) rfl #[.string t474] rfl (by (try simp only [List.map_toArray, List.map_cons, List.map_nil]); first | done | rfl | (simp only [List.length_drop, List.length_take]; rfl) | (simp only [ByteArray.size_append, Int.natCast_add]; done) | (simp only [ByteArray.size_append, Int.natCast_add]; rfl) | (simp only [Array.mk.injEq, List.cons.injEq, Value.int.injEq, true_and, and_true]; (try simp only [mx, mn, wrap64] at *); omega)) ?_; (with_reducible refine (value_Fold.calls t474 t475 _ A29.out).mono ?_); rintro e w52 ⟨rfl, hb⟩; refine ⟨_, rfl, ?_⟩; have n0_ := Aside0.mk (below_step (by repeat (first | (with_reducible first | exact HB.out | apply below_alloc | apply pw_below_drewN | apply below_drew1) | exact HB.out)) hb); clear HB; have HB := n0_; clear n0_; (try clear hb); (try clear hb2); (try clear hk); (try clear hi)) | ((with_reducible refine gate_callee (f := 15) rfl ?_); refine goesL_ (some 67) rfl rfl Tryz.func15 (by kernel_rfl) rfl #[.string a0] rfl (by (try simp only [List.map_toArray, List.map_cons, List.map_nil]); first | done | rfl | (simp only [List.length_drop, List.length_take]; rfl) | (simp only [ByteArray.size_append, Int.natCast_add]; done) | (simp only [ByteArray.size_append, Int.natCast_add]; rfl) | (simp only [Array.mk.injEq, List.cons.injEq, Value.int.injEq, true_and, and_true]; (try simp only [mx, mn, wrap64] at *); omega)) ?_; (with_reducible refine (value_Fold.calls a0 t476 _ A30.out).mono ?_); rintro e w53 ⟨rfl, hb⟩; refine ⟨_, rfl, ?_⟩; have n0_ := Aside0.mk (below_step (by repeat (first | (with_reducible first | exact HB.out | apply below_alloc | apply pw_below_drewN | apply below_drew1) | exact HB.out)) hb); clear HB; have HB := n0_; clear n0_; (try clear hb); (try clear hb2); (try clear hk); (try clear hi)) | (go_at_call 32; (with_reducible refine (foolscaplaw04_text.calls a0 t477 t478 t479 t480 t481 _ A34.out).mono ?_); rintro e w54 ⟨rfl, hb⟩; have n0_ := Aside0.mk (below_step (by repeat (first | (with_reducible first | exact HB.out | apply below_alloc | apply pw_below_drewN | apply below_drew1) | exact HB.out)) hb); clear HB; have HB := n0_; clear n0_; (try clear hb); (try clear hb2); (try clear hk); (try clear hi)) | (go_at_call 32; (with_reducible refine (foolscaplaw04_text.calls a1 t482 t483 t484 t485 t486 _ A35.out).mono ?_); rintro e w55 ⟨rfl, hb⟩; have n0_ := Aside0.mk (below_step (by repeat (first | (with_reducible first | exact HB.out | apply below_alloc | apply pw_below_drewN | apply below_drew1) | exact HB.out)) hb); clear HB; have HB := n0_; clear n0_; (try clear hb); (try clear hb2); (try clear hk); (try clear hi)) | (go_at_call 21; (with_reducible refine (value_Alike.calls kj2 t477 t478 t479 t480 t481 t482 t483 t484 t485 t486 t487 _ A36.out).mono ?_); rintro e w56 ⟨rfl, hb⟩; have n0_ := Aside0.mk (below_step (by repeat (first | (with_reducible first | exact HB.out | apply below_alloc | apply pw_below_drewN | apply below_drew1) | exact HB.out)) hb); clear HB; have HB := n0_; clear n0_; (try clear hb); (try clear hb2); (try clear hk); (try clear hi)) | (go_at_call 17; (with_reducible refine (foolscaplaw04_lives.calls kj2  t488 _ A40.out (LaidAt hL0 (by repeat (first | (with_reducible first | exact HB.out | apply below_alloc | apply pw_below_drewN | apply below_drew1) | exact HB.out)))).mono ?_); rintro e w57 ⟨rfl, hb⟩; have n0_ := Aside0.mk (below_step (by repeat (first | (with_reducible first | exact HB.out | apply below_alloc | apply pw_below_drewN | apply below_drew1) | exact HB.out)) hb); clear HB; have HB := n0_; clear n0_; (try clear hb); (try clear hb2); (try clear hk); (try clear hi)))
                    go_ret
                    exact ⟨by first | rfl | (simp [errW_none, errW_some] <;> rfl) | (simp [*, errW_none, errW_some] <;> rfl), by repeat (first | (with_reducible first | exact HB.out | apply below_alloc | apply pw_below_drewN | apply below_drew1) | exact HB.out)⟩
                  · rw [if_neg c39] at H
                    exact absurd H (by simp)
                · rw [if_neg c38] at H
                  exact absurd H (by simp)
              · rw [if_neg c37] at H
                exact absurd H (by simp)
            · rw [if_neg c33] at H
              exact absurd H (by simp)
          · rw [if_neg c32] at H
            exact absurd H (by simp)
        · rw [if_neg c31] at H
          exact absurd H (by simp)
end Go.Proofs.YtgjdlimbkjdhjaaGreatDoor.Pr
end
