-- Printed by pr.py, a program of this claim's author, out of Lean's own print of the program. Not trusted: Lean checks it.
import Derived.Test.YtiloagepldeeeaaDoorPr0
import Derived.Test.YtiloagepldeeeaaDoorPr4
import Derived.Test.YtiloagepldeeeaaDoorPr6
import Derived.Test.YtiloagepldeeeaaDoorPr8
import Derived.Test.YtiloagepldeeeaaDoorLaid
namespace Go.Proofs.YtiloagepldeeeaaDoor.Pr
open Go.RowKit Go.Proofs.YtiloagepldeeeaaDoorW.PrintWords Go.Proofs.YtiloagepldeeeaaDoorW.PrintLast Go.Proofs.YtiloagepldeeeaaDoorW.PrintMore
attribute [local go_sem] max2_int min2_int max_two min_two max_three min_three max_four min_four   -- for this text's walks alone
set_option linter.unusedVariables false
set_option linter.unusedSimpArgs false

/-! ### foolscaplaw11_DatesMonths: function 4 -/
def foolscaplaw11_DatesMonths.f (k : Nat) (a0 : Int) (a1 : Int) : Option (Bool) := (dates_Months.f k a0 a1).bind fun bt179 => ((foolscapref11_Months.f k a0 a1).bind fun bt181 => (if bt179.1 = bt181.1 then (if bt179.2 = bt181.2 then ((foolscaplaw11_lives.f k).bind fun t183 => (some t183)) else (some false)) else (some false)))
theorem foolscaplaw11_DatesMonths.mono : ∀ a0 a1 k, LeO (foolscaplaw11_DatesMonths.f k a0 a1) (foolscaplaw11_DatesMonths.f (k + 1) a0 a1) := by
  intro a0 a1 k
  unfold foolscaplaw11_DatesMonths.f
  repeat' first
      | (with_reducible exact dates_Months.mono _ _ _)
      | (with_reducible exact foolscaplaw11_lives.mono _)
      | (with_reducible exact foolscapref11_Months.mono _ _ _)
      | (with_reducible exact LeO.refl _)
      | (with_reducible exact LeO.none _)
      | (with_reducible refine LeO.ite ?_ ?_)
      | (with_reducible refine LeO.bind ?_ (fun _ => ?_))
      | exact dates_Months.mono _ _ _
      | exact foolscaplaw11_lives.mono _
      | exact foolscapref11_Months.mono _ _ _
      | exact LeO.none _
      | refine LeO.ite ?_ ?_
      | refine LeO.bind ?_ (fun _ => ?_)
set_option maxHeartbeats 8000000 in
set_option maxRecDepth 100000 in
theorem foolscaplaw11_DatesMonths.calls (k : Nat) (a0 : Int) (a1 : Int) (r : Bool) (w : World) (h : foolscaplaw11_DatesMonths.f k a0 a1 = some r) (hL0 : Aside0 (LaidW w)) :
    Calls Tryd.prog 4 #[.int .i64 a0, .int .i64 a1] w fun e w' => e = .returned (.bool r) ∧ Below w.heap.size w w' := by
  have HB := Aside0.mk (Below.refl w.heap.size w)
  have H : ((dates_Months.f k a0 a1).bind fun bt179 => ((foolscapref11_Months.f k a0 a1).bind fun bt181 => (if bt179.1 = bt181.1 then (if bt179.2 = bt181.2 then ((foolscaplaw11_lives.f k).bind fun t183 => (some t183)) else (some false)) else (some false)))) = some r := h
  clear h
  replace H := Option.bind_eq_some_iff.mp H
  obtain ⟨⟨t179, t180⟩, A30, H⟩ := H
  replace H : ((foolscapref11_Months.f k a0 a1).bind fun bt181 => (if t179 = bt181.1 then (if t180 = bt181.2 then ((foolscaplaw11_lives.f k).bind fun t183 => (some t183)) else (some false)) else (some false))) = some r := H
  have A3 := Aside0.mk A30
  clear A30
  replace H := Option.bind_eq_some_iff.mp H
  obtain ⟨⟨t181, t182⟩, A40, H⟩ := H
  replace H : (if t179 = t181 then (if t180 = t182 then ((foolscaplaw11_lives.f k).bind fun t183 => (some t183)) else (some false)) else (some false)) = some r := H
  have A4 := Aside0.mk A40
  clear A40
  by_cases c5 : t179 = t181
  · rw [if_pos c5] at H
    have c5b0 : (t179 == t181) = true := beq_iff_eq.mpr c5
    have c5b1 : (t179 != t181) = false := bne_eq_false_iff_eq.mpr c5
    clear c5
    by_cases c6 : t180 = t182
    · rw [if_pos c6] at H
      have c6b0 : (t180 == t182) = true := beq_iff_eq.mpr c6
      have c6b1 : (t180 != t182) = false := bne_eq_false_iff_eq.mpr c6
      clear c6
      replace H := Option.bind_eq_some_iff.mp H
      obtain ⟨t183, A70, H⟩ := H
      replace H : (some t183) = some r := H
      have A7 := Aside0.mk A70
      clear A70
      obtain rfl := Option.some.inj H
      go_enter Tryd.func4, Tryd.ntmps4
      go_wp2_with (first | ((with_reducible refine gate_callee (f := 17) rfl ?_); refine goesL_ (some 12) rfl rfl Tryd.func17 (by kernel_rfl) rfl #[.int .i64 a0, .int .i64 a1] rfl (by (try simp only [List.map_toArray, List.map_cons, List.map_nil]); first | done | rfl | (simp only [List.length_drop, List.length_take]; rfl) | (simp only [ByteArray.size_append, Int.natCast_add]; done) | (simp only [ByteArray.size_append, Int.natCast_add]; rfl) | (simp only [Array.mk.injEq, List.cons.injEq, Value.int.injEq, true_and, and_true]; (try simp only [mx, mn, wrap64] at *); omega)) ?_; (with_reducible refine (dates_Months.calls k a0 a1 t179 t180 _ A3.out).mono ?_); rintro e w8 ⟨rfl, hb⟩; refine ⟨_, rfl, ?_⟩; have n0_ := Aside0.mk (below_step (by repeat (first | (with_reducible first | exact HB.out | apply below_alloc | apply pw_below_drewN | apply below_drew1) | exact HB.out)) hb); clear HB; have HB := n0_; clear n0_; (try clear hb); (try clear hb2); (try clear hk); (try clear hi)) | ((with_reducible refine gate_callee (f := 18) rfl ?_); refine goesL_ (some 18) rfl rfl Tryd.func18 (by kernel_rfl) rfl #[.int .i64 a0, .int .i64 a1] rfl (by (try simp only [List.map_toArray, List.map_cons, List.map_nil]); first | done | rfl | (simp only [List.length_drop, List.length_take]; rfl) | (simp only [ByteArray.size_append, Int.natCast_add]; done) | (simp only [ByteArray.size_append, Int.natCast_add]; rfl) | (simp only [Array.mk.injEq, List.cons.injEq, Value.int.injEq, true_and, and_true]; (try simp only [mx, mn, wrap64] at *); omega)) ?_; (with_reducible refine (foolscapref11_Months.calls k a0 a1 t181 t182 _ A4.out).mono ?_); rintro e w9 ⟨rfl, hb⟩; refine ⟨_, rfl, ?_⟩; have n0_ := Aside0.mk (below_step (by repeat (first | (with_reducible first | exact HB.out | apply below_alloc | apply pw_below_drewN | apply below_drew1) | exact HB.out)) hb); clear HB; have HB := n0_; clear n0_; (try clear hb); (try clear hb2); (try clear hk); (try clear hi)) | (go_at_call 16; (with_reducible refine (foolscaplaw11_lives.calls k  t183 _ A7.out (LaidAt hL0 (by repeat (first | (with_reducible first | exact HB.out | apply below_alloc | apply pw_below_drewN | apply below_drew1) | exact HB.out)))).mono ?_); rintro e w10 ⟨rfl, hb⟩; have n0_ := Aside0.mk (below_step (by repeat (first | (with_reducible first | exact HB.out | apply below_alloc | apply pw_below_drewN | apply below_drew1) | exact HB.out)) hb); clear HB; have HB := n0_; clear n0_; (try clear hb); (try clear hb2); (try clear hk); (try clear hi)))
      go_ret
      exact ⟨by first | rfl | (simp [errW_none, errW_some] <;> rfl) | (simp [*, errW_none, errW_some] <;> rfl), by repeat (first | (with_reducible first | exact HB.out | apply below_alloc | apply pw_below_drewN | apply below_drew1) | exact HB.out)⟩
    · rw [if_neg c6] at H
      have c6b0 : (t180 == t182) = false := beq_eq_false_iff_ne.mpr c6
      have c6b1 : (t180 != t182) = true := bne_iff_ne.mpr c6
      obtain rfl := Option.some.inj H
      go_enter Tryd.func4, Tryd.ntmps4
      go_wp2_with (first | ((with_reducible refine gate_callee (f := 17) rfl ?_); refine goesL_ (some 12) rfl rfl Tryd.func17 (by kernel_rfl) rfl #[.int .i64 a0, .int .i64 a1] rfl (by (try simp only [List.map_toArray, List.map_cons, List.map_nil]); first | done | rfl | (simp only [List.length_drop, List.length_take]; rfl) | (simp only [ByteArray.size_append, Int.natCast_add]; done) | (simp only [ByteArray.size_append, Int.natCast_add]; rfl) | (simp only [Array.mk.injEq, List.cons.injEq, Value.int.injEq, true_and, and_true]; (try simp only [mx, mn, wrap64] at *); omega)) ?_; (with_reducible refine (dates_Months.calls k a0 a1 t179 t180 _ A3.out).mono ?_); rintro e w11 ⟨rfl, hb⟩; refine ⟨_, rfl, ?_⟩; have n0_ := Aside0.mk (below_step (by repeat (first | (with_reducible first | exact HB.out | apply below_alloc | apply pw_below_drewN | apply below_drew1) | exact HB.out)) hb); clear HB; have HB := n0_; clear n0_; (try clear hb); (try clear hb2); (try clear hk); (try clear hi)) | ((with_reducible refine gate_callee (f := 18) rfl ?_); refine goesL_ (some 18) rfl rfl Tryd.func18 (by kernel_rfl) rfl #[.int .i64 a0, .int .i64 a1] rfl (by (try simp only [List.map_toArray, List.map_cons, List.map_nil]); first | done | rfl | (simp only [List.length_drop, List.length_take]; rfl) | (simp only [ByteArray.size_append, Int.natCast_add]; done) | (simp only [ByteArray.size_append, Int.natCast_add]; rfl) | (simp only [Array.mk.injEq, List.cons.injEq, Value.int.injEq, true_and, and_true]; (try simp only [mx, mn, wrap64] at *); omega)) ?_; (with_reducible refine (foolscapref11_Months.calls k a0 a1 t181 t182 _ A4.out).mono ?_); rintro e w12 ⟨rfl, hb⟩; refine ⟨_, rfl, ?_⟩; have n0_ := Aside0.mk (below_step (by repeat (first | (with_reducible first | exact HB.out | apply below_alloc | apply pw_below_drewN | apply below_drew1) | exact HB.out)) hb); clear HB; have HB := n0_; clear n0_; (try clear hb); (try clear hb2); (try clear hk); (try clear hi)))
      go_ret
      exact ⟨by first | rfl | (simp [errW_none, errW_some] <;> rfl) | (simp [*, errW_none, errW_some] <;> rfl), by repeat (first | (with_reducible first | exact HB.out | apply below_alloc | apply pw_below_drewN | apply below_drew1) | exact HB.out)⟩
  · rw [if_neg c5] at H
    have c5b0 : (t179 == t181) = false := beq_eq_false_iff_ne.mpr c5
    have c5b1 : (t179 != t181) = true := bne_iff_ne.mpr c5
    obtain rfl := Option.some.inj H
    go_enter Tryd.func4, Tryd.ntmps4
    go_wp2_with (first | ((with_reducible refine gate_callee (f := 17) rfl ?_); refine goesL_ (some 12) rfl rfl Tryd.func17 (by kernel_rfl) rfl #[.int .i64 a0, .int .i64 a1] rfl (by (try simp only [List.map_toArray, List.map_cons, List.map_nil]); first | done | rfl | (simp only [List.length_drop, List.length_take]; rfl) | (simp only [ByteArray.size_append, Int.natCast_add]; done) | (simp only [ByteArray.size_append, Int.natCast_add]; rfl) | (simp only [Array.mk.injEq, List.cons.injEq, Value.int.injEq, true_and, and_true]; (try simp only [mx, mn, wrap64] at *); omega)) ?_; (with_reducible refine (dates_Months.calls k a0 a1 t179 t180 _ A3.out).mono ?_); rintro e w13 ⟨rfl, hb⟩; refine ⟨_, rfl, ?_⟩; have n0_ := Aside0.mk (below_step (by repeat (first | (with_reducible first | exact HB.out | apply below_alloc | apply pw_below_drewN | apply below_drew1) | exact HB.out)) hb); clear HB; have HB := n0_; clear n0_; (try clear hb); (try clear hb2); (try clear hk); (try clear hi)) | ((with_reducible refine gate_callee (f := 18) rfl ?_); refine goesL_ (some 18) rfl rfl Tryd.func18 (by kernel_rfl) rfl #[.int .i64 a0, .int .i64 a1] rfl (by (try simp only [List.map_toArray, List.map_cons, List.map_nil]); first | done | rfl | (simp only [List.length_drop, List.length_take]; rfl) | (simp only [ByteArray.size_append, Int.natCast_add]; done) | (simp only [ByteArray.size_append, Int.natCast_add]; rfl) | (simp only [Array.mk.injEq, List.cons.injEq, Value.int.injEq, true_and, and_true]; (try simp only [mx, mn, wrap64] at *); omega)) ?_; (with_reducible refine (foolscapref11_Months.calls k a0 a1 t181 t182 _ A4.out).mono ?_); rintro e w14 ⟨rfl, hb⟩; refine ⟨_, rfl, ?_⟩; have n0_ := Aside0.mk (below_step (by repeat (first | (with_reducible first | exact HB.out | apply below_alloc | apply pw_below_drewN | apply below_drew1) | exact HB.out)) hb); clear HB; have HB := n0_; clear n0_; (try clear hb); (try clear hb2); (try clear hk); (try clear hi)))
    go_ret
    exact ⟨by first | rfl | (simp [errW_none, errW_some] <;> rfl) | (simp [*, errW_none, errW_some] <;> rfl), by repeat (first | (with_reducible first | exact HB.out | apply below_alloc | apply pw_below_drewN | apply below_drew1) | exact HB.out)⟩

end Go.Proofs.YtiloagepldeeeaaDoor.Pr
