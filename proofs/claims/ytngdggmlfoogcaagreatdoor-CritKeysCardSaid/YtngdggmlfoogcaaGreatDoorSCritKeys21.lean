/-
  What the law CritKeys leans on, out of the texts that were printed and written for this seat: only what its proof mentions (gathered by a program of the author's).
-/
import Derived.Test.YtngdggmlfoogcaaGreatDoorSCritKeys4
import Derived.Test.YtngdggmlfoogcaaGreatDoorSCritKeys17
import Derived.Test.YtngdggmlfoogcaaGreatDoorSCritKeys20
import Derived.Test.YtngdggmlfoogcaaGreatDoorSCritKeys9
section
namespace Go.Proofs.YtngdggmlfoogcaaGreatDoor.Pr
open Go.RowKit Go.Proofs.YtngdggmlfoogcaaGreatDoorW.PrintWords Go.Proofs.YtngdggmlfoogcaaGreatDoorW.PrintLast Go.Proofs.YtngdggmlfoogcaaGreatDoorW.PrintMore
attribute [local go_sem] max2_int min2_int max_two min_two max_three min_three max_four min_four   -- for this text's walks alone
set_option linter.unusedVariables false
set_option linter.unusedSimpArgs false
def foolscaplaw13_CritKeys.j0 : Nat → ByteArray → Bool → ByteArray → Bool → Bool → ByteArray → Int → Int → ByteArray → Bool → Int → ByteArray → Int → Int → ByteArray → Bool → Int → Option (Bool)
  | 0, _, _, _, _, _, _, _, _, _, _, _, _, _, _, _, _, _ => none
  | k + 1, x5, x6, x7, x8, x36, x431000, x431001, x431002, x431003, x431004, x431005, x432000, x432001, x432002, x432003, x432004, x432005 => if x36 = true then (none) else (if x6 = true then (if x8 = true then ((foolscapref13_SameKey.f k x431000 x431001 x431002 x431003 x431004 x431005 x432000 x432001 x432002 x432003 x432004 x432005).bind fun t438 => (if ((x5.toList == x7.toList) == t438) = true then ((foolscaplaw13_lives.f k).bind fun t439 => (some t439)) else (none))) else ((foolscaplaw13_lives.f k).bind fun t440 => (some t440))) else ((foolscaplaw13_lives.f k).bind fun t441 => (some t441)))
def foolscaplaw13_CritKeys.f (k : Nat) (a0_0 : ByteArray) (a0_1 : Int) (a0_2 : Int) (a0_3 : ByteArray) (a0_4 : Bool) (a0_5 : Int) (a1_0 : ByteArray) (a1_1 : Int) (a1_2 : Int) (a1_3 : ByteArray) (a1_4 : Bool) (a1_5 : Int) : Option (Bool) := (crit_Key.f k a0_0 a0_1 a0_2 a0_3 a0_4 a0_5).bind fun bt432 => ((crit_Key.f k a1_0 a1_1 a1_2 a1_3 a1_4 a1_5).bind fun bt434 => ((foolscapref13_Keyed.f k a0_0 a0_1 a0_2 a0_3 a0_4 a0_5).bind fun t436 => (if (bt432.2 != t436) = true then (foolscaplaw13_CritKeys.j0 k bt432.1 bt432.2 bt434.1 bt434.2 true a0_0 a0_1 a0_2 a0_3 a0_4 a0_5 a1_0 a1_1 a1_2 a1_3 a1_4 a1_5) else ((foolscapref13_Keyed.f k a1_0 a1_1 a1_2 a1_3 a1_4 a1_5).bind fun t437 => (if (bt434.2 != t437) = true then (foolscaplaw13_CritKeys.j0 k bt432.1 bt432.2 bt434.1 bt434.2 true a0_0 a0_1 a0_2 a0_3 a0_4 a0_5 a1_0 a1_1 a1_2 a1_3 a1_4 a1_5) else (if bt432.2 = true then (foolscaplaw13_CritKeys.j0 k bt432.1 bt432.2 bt434.1 bt434.2 false a0_0 a0_1 a0_2 a0_3 a0_4 a0_5 a1_0 a1_1 a1_2 a1_3 a1_4 a1_5) else (foolscaplaw13_CritKeys.j0 k bt432.1 bt432.2 bt434.1 bt434.2 (bt432.1.toList != ([] : List UInt8)) a0_0 a0_1 a0_2 a0_3 a0_4 a0_5 a1_0 a1_1 a1_2 a1_3 a1_4 a1_5)))))))
set_option maxHeartbeats 8000000 in
set_option maxRecDepth 100000 in
theorem foolscaplaw13_CritKeys.calls (k : Nat) (a0_0 : ByteArray) (a0_1 : Int) (a0_2 : Int) (a0_3 : ByteArray) (a0_4 : Bool) (a0_5 : Int) (a1_0 : ByteArray) (a1_1 : Int) (a1_2 : Int) (a1_3 : ByteArray) (a1_4 : Bool) (a1_5 : Int) (r : Bool) (w : World) (h : foolscaplaw13_CritKeys.f k a0_0 a0_1 a0_2 a0_3 a0_4 a0_5 a1_0 a1_1 a1_2 a1_3 a1_4 a1_5 = some r) (hL0 : Aside0 (LaidW w)) :
    Calls Tryz.prog 6 #[.agg #[.string a0_0, .int .i64 a0_1, .int .i64 a0_2, .string a0_3, .bool a0_4, .int .i64 a0_5], .agg #[.string a1_0, .int .i64 a1_1, .int .i64 a1_2, .string a1_3, .bool a1_4, .int .i64 a1_5]] w fun e w' => e = .returned (.bool r) ∧ Below w.heap.size w w' := by
  have hu27 := Tryz.underlying27
  have HB := Aside0.mk (Below.refl w.heap.size w)
  have H : ((crit_Key.f k a0_0 a0_1 a0_2 a0_3 a0_4 a0_5).bind fun bt432 => ((crit_Key.f k a1_0 a1_1 a1_2 a1_3 a1_4 a1_5).bind fun bt434 => ((foolscapref13_Keyed.f k a0_0 a0_1 a0_2 a0_3 a0_4 a0_5).bind fun t436 => (if (bt432.2 != t436) = true then (foolscaplaw13_CritKeys.j0 k bt432.1 bt432.2 bt434.1 bt434.2 true a0_0 a0_1 a0_2 a0_3 a0_4 a0_5 a1_0 a1_1 a1_2 a1_3 a1_4 a1_5) else ((foolscapref13_Keyed.f k a1_0 a1_1 a1_2 a1_3 a1_4 a1_5).bind fun t437 => (if (bt434.2 != t437) = true then (foolscaplaw13_CritKeys.j0 k bt432.1 bt432.2 bt434.1 bt434.2 true a0_0 a0_1 a0_2 a0_3 a0_4 a0_5 a1_0 a1_1 a1_2 a1_3 a1_4 a1_5) else (if bt432.2 = true then (foolscaplaw13_CritKeys.j0 k bt432.1 bt432.2 bt434.1 bt434.2 false a0_0 a0_1 a0_2 a0_3 a0_4 a0_5 a1_0 a1_1 a1_2 a1_3 a1_4 a1_5) else (foolscaplaw13_CritKeys.j0 k bt432.1 bt432.2 bt434.1 bt434.2 (bt432.1.toList != ([] : List UInt8)) a0_0 a0_1 a0_2 a0_3 a0_4 a0_5 a1_0 a1_1 a1_2 a1_3 a1_4 a1_5)))))))) = some r := h
  clear h
  replace H := Option.bind_eq_some_iff.mp H
  obtain ⟨⟨t432, t433⟩, A30, H⟩ := H
  replace H : ((crit_Key.f k a1_0 a1_1 a1_2 a1_3 a1_4 a1_5).bind fun bt434 => ((foolscapref13_Keyed.f k a0_0 a0_1 a0_2 a0_3 a0_4 a0_5).bind fun t436 => (if (t433 != t436) = true then (foolscaplaw13_CritKeys.j0 k t432 t433 bt434.1 bt434.2 true a0_0 a0_1 a0_2 a0_3 a0_4 a0_5 a1_0 a1_1 a1_2 a1_3 a1_4 a1_5) else ((foolscapref13_Keyed.f k a1_0 a1_1 a1_2 a1_3 a1_4 a1_5).bind fun t437 => (if (bt434.2 != t437) = true then (foolscaplaw13_CritKeys.j0 k t432 t433 bt434.1 bt434.2 true a0_0 a0_1 a0_2 a0_3 a0_4 a0_5 a1_0 a1_1 a1_2 a1_3 a1_4 a1_5) else (if t433 = true then (foolscaplaw13_CritKeys.j0 k t432 t433 bt434.1 bt434.2 false a0_0 a0_1 a0_2 a0_3 a0_4 a0_5 a1_0 a1_1 a1_2 a1_3 a1_4 a1_5) else (foolscaplaw13_CritKeys.j0 k t432 t433 bt434.1 bt434.2 (t432.toList != ([] : List UInt8)) a0_0 a0_1 a0_2 a0_3 a0_4 a0_5 a1_0 a1_1 a1_2 a1_3 a1_4 a1_5))))))) = some r := H
  have A3 := Aside0.mk A30
  clear A30
  replace H := Option.bind_eq_some_iff.mp H
  obtain ⟨⟨t434, t435⟩, A40, H⟩ := H
  replace H : ((foolscapref13_Keyed.f k a0_0 a0_1 a0_2 a0_3 a0_4 a0_5).bind fun t436 => (if (t433 != t436) = true then (foolscaplaw13_CritKeys.j0 k t432 t433 t434 t435 true a0_0 a0_1 a0_2 a0_3 a0_4 a0_5 a1_0 a1_1 a1_2 a1_3 a1_4 a1_5) else ((foolscapref13_Keyed.f k a1_0 a1_1 a1_2 a1_3 a1_4 a1_5).bind fun t437 => (if (t435 != t437) = true then (foolscaplaw13_CritKeys.j0 k t432 t433 t434 t435 true a0_0 a0_1 a0_2 a0_3 a0_4 a0_5 a1_0 a1_1 a1_2 a1_3 a1_4 a1_5) else (if t433 = true then (foolscaplaw13_CritKeys.j0 k t432 t433 t434 t435 false a0_0 a0_1 a0_2 a0_3 a0_4 a0_5 a1_0 a1_1 a1_2 a1_3 a1_4 a1_5) else (foolscaplaw13_CritKeys.j0 k t432 t433 t434 t435 (t432.toList != ([] : List UInt8)) a0_0 a0_1 a0_2 a0_3 a0_4 a0_5 a1_0 a1_1 a1_2 a1_3 a1_4 a1_5)))))) = some r := H
  have A4 := Aside0.mk A40
  clear A40
  have HC5 := Aside0.mk H
  clear H
  go_enter Tryz.func6, Tryz.ntmps6
  go_upto_region 3 with (first | ((with_reducible refine gate_dst (N := 2) rfl ?_); refine box_event ?hg (N := 2) ?hd (cs := #[.string a0_0, .int .i64 a0_1, .int .i64 a0_2, .string a0_3, .bool a0_4, .int .i64 a0_5]) (t := 27) ?hr ?_; (case hd => rfl); (case hg => rfl); (case hr => first | (go_simp; done) | (go_simp; rfl)); intro gb430 hg w6 hbox hb; have n0_ := Aside0.mk (below_step (by repeat (first | (with_reducible first | exact HB.out | apply below_alloc | apply pw_below_drewN | apply below_drew1) | exact HB.out)) hb); have n1_ := Aside0.mk (hbox); have n2_ := Aside0.mk ((by rw [hg]; exact (below_size (by repeat (first | (with_reducible first | exact HB.out | apply below_alloc | apply pw_below_drewN | apply below_drew1) | exact HB.out))) : w.heap.size ≤ gb430)); have n3_ := Aside0.mk ((by rw [hg]; exact (below_size (by repeat (first | (with_reducible first | exact HB.out | apply below_alloc | apply pw_below_drewN | apply below_drew1) | exact HB.out))) : w.heap.size ≤ gb430)); clear HB; have HB := n0_; have BK430 := n1_; have GW430 := n2_; have GE430 := n3_; clear n0_ n1_ n2_ n3_; clear hb hbox hg) | ((with_reducible refine gate_dst (N := 3) rfl ?_); refine box_event ?hg (N := 3) ?hd (cs := #[.string a1_0, .int .i64 a1_1, .int .i64 a1_2, .string a1_3, .bool a1_4, .int .i64 a1_5]) (t := 27) ?hr ?_; (case hd => rfl); (case hg => rfl); (case hr => first | (go_simp; done) | (go_simp; rfl)); intro gb431 hg w7 hbox hb; have n0_ := Aside0.mk (blk_below (g := gb430) (o := .cells #[.string a0_0, .int .i64 a0_1, .int .i64 a0_2, .string a0_3, .bool a0_4, .int .i64 a0_5] 27 (0, 0)) (by (with_reducible repeat (first | refine blk_drewN ?_ _ | refine blk_drew ?_ | refine blk_alloc ?_ _)); exact BK430.out) hb); have n1_ := Aside0.mk (below_step (by repeat (first | (with_reducible first | exact HB.out | apply below_alloc | apply pw_below_drewN | apply below_drew1 | refine below_set ?_ GE430.out) | exact HB.out)) hb); have n2_ := Aside0.mk (hbox); have n3_ := Aside0.mk ((by rw [hg]; exact (below_size (by repeat (first | (with_reducible first | exact HB.out | apply below_alloc | apply pw_below_drewN | apply below_drew1 | refine below_set ?_ GE430.out) | exact HB.out))) : w.heap.size ≤ gb431)); have n4_ := Aside0.mk ((by rw [hg]; exact (below_size (by repeat (first | (with_reducible first | exact HB.out | apply below_alloc | apply pw_below_drewN | apply below_drew1 | refine below_set ?_ GE430.out) | exact HB.out))) : w.heap.size ≤ gb431)); have n5_ := Aside0.mk ((by rw [hg]; exact Nat.ne_of_lt (blk_lt (g := gb430) (o := .cells #[.string a0_0, .int .i64 a0_1, .int .i64 a0_2, .string a0_3, .bool a0_4, .int .i64 a0_5] 27 (0, 0)) (by (with_reducible repeat (first | refine blk_drewN ?_ _ | refine blk_drew ?_ | refine blk_alloc ?_ _)); exact BK430.out)) : gb430 ≠ gb431)); have n6_ := Aside0.mk ((by rw [hg]; exact Nat.ne_of_gt (blk_lt (g := gb430) (o := .cells #[.string a0_0, .int .i64 a0_1, .int .i64 a0_2, .string a0_3, .bool a0_4, .int .i64 a0_5] 27 (0, 0)) (by (with_reducible repeat (first | refine blk_drewN ?_ _ | refine blk_drew ?_ | refine blk_alloc ?_ _)); exact BK430.out)) : gb431 ≠ gb430)); clear BK430; clear HB; have BK430 := n0_; have HB := n1_; have BK431 := n2_; have GW431 := n3_; have GE431 := n4_; have NB430_431 := n5_; have NB431_430 := n6_; clear n0_ n1_ n2_ n3_ n4_ n5_ n6_; clear hb hbox hg; have hnb8 := NB430_431.out; have hnc8 := NB431_430.out; have hcz9_0 : w7.cell? ⟨gb430, 0, none⟩ = some (.string a0_0) := (blk_cell BK430.out 0).trans rfl; have hcz9_1 : w7.cell? ⟨gb430, 1, none⟩ = some (.int .i64 a0_1) := (blk_cell BK430.out 1).trans rfl; have hcz9_2 : w7.cell? ⟨gb430, 2, none⟩ = some (.int .i64 a0_2) := (blk_cell BK430.out 2).trans rfl; have hcz9_3 : w7.cell? ⟨gb430, 3, none⟩ = some (.string a0_3) := (blk_cell BK430.out 3).trans rfl; have hcz9_4 : w7.cell? ⟨gb430, 4, none⟩ = some (.bool a0_4) := (blk_cell BK430.out 4).trans rfl; have hcz9_5 : w7.cell? ⟨gb430, 5, none⟩ = some (.int .i64 a0_5) := (blk_cell BK430.out 5).trans rfl; have hfz9_0 := blk_frozen BK430.out 0; have hfz9_1 := blk_frozen BK430.out 1; have hfz9_2 := blk_frozen BK430.out 2; have hfz9_3 := blk_frozen BK430.out 3; have hfz9_4 := blk_frozen BK430.out 4; have hfz9_5 := blk_frozen BK430.out 5) | ((with_reducible refine gate_callee (f := 14) rfl ?_); refine goesL_ (some 11) rfl rfl Tryz.func14 (by kernel_rfl) rfl #[.agg #[.string a0_0, .int .i64 a0_1, .int .i64 a0_2, .string a0_3, .bool a0_4, .int .i64 a0_5]] rfl (by (try simp only [List.map_toArray, List.map_cons, List.map_nil]); first | done | rfl | (simp only [List.length_drop, List.length_take]; rfl) | (simp only [ByteArray.size_append, Int.natCast_add]; done) | (simp only [ByteArray.size_append, Int.natCast_add]; rfl) | (simp only [Array.mk.injEq, List.cons.injEq, Value.int.injEq, true_and, and_true]; (try simp only [mx, mn, wrap64] at *); omega)) ?_; (with_reducible refine (crit_Key.calls k a0_0 a0_1 a0_2 a0_3 a0_4 a0_5 t432 t433 _ A3.out (LaidAt hL0 (by repeat (first | (with_reducible first | exact HB.out | apply below_alloc | apply pw_below_drewN | apply below_drew1 | refine below_set ?_ GE430.out | refine below_set ?_ GE431.out) | exact HB.out)))).mono ?_); rintro e w10 ⟨rfl, hb⟩; refine ⟨_, rfl, ?_⟩; have n0_ := Aside0.mk (blk_below (g := gb430) (o := .cells #[.string a0_0, .int .i64 a0_1, .int .i64 a0_2, .string a0_3, .bool a0_4, .int .i64 a0_5] 27 (0, 0)) (by (with_reducible repeat (first | refine blk_drewN ?_ _ | refine blk_drew ?_ | refine blk_alloc ?_ _)); exact BK430.out) hb); have n1_ := Aside0.mk (blk_below (g := gb431) (o := .cells #[.string a1_0, .int .i64 a1_1, .int .i64 a1_2, .string a1_3, .bool a1_4, .int .i64 a1_5] 27 (0, 0)) (by (with_reducible repeat (first | refine blk_drewN ?_ _ | refine blk_drew ?_ | refine blk_alloc ?_ _)); exact BK431.out) hb); have n2_ := Aside0.mk (below_step (by repeat (first | (with_reducible first | exact HB.out | apply below_alloc | apply pw_below_drewN | apply below_drew1 | refine below_set ?_ GE430.out | refine below_set ?_ GE431.out) | exact HB.out)) hb); clear BK430; clear BK431; clear HB; have BK430 := n0_; have BK431 := n1_; have HB := n2_; clear n0_ n1_ n2_; (try clear hb); (try clear hb2); (try clear hk); (try clear hi); have hcz11_0 : w10.cell? ⟨gb431, 0, none⟩ = some (.string a1_0) := (blk_cell BK431.out 0).trans rfl; have hcz11_1 : w10.cell? ⟨gb431, 1, none⟩ = some (.int .i64 a1_1) := (blk_cell BK431.out 1).trans rfl; have hcz11_2 : w10.cell? ⟨gb431, 2, none⟩ = some (.int .i64 a1_2) := (blk_cell BK431.out 2).trans rfl; have hcz11_3 : w10.cell? ⟨gb431, 3, none⟩ = some (.string a1_3) := (blk_cell BK431.out 3).trans rfl; have hcz11_4 : w10.cell? ⟨gb431, 4, none⟩ = some (.bool a1_4) := (blk_cell BK431.out 4).trans rfl; have hcz11_5 : w10.cell? ⟨gb431, 5, none⟩ = some (.int .i64 a1_5) := (blk_cell BK431.out 5).trans rfl; have hfz11_0 := blk_frozen BK431.out 0; have hfz11_1 := blk_frozen BK431.out 1; have hfz11_2 := blk_frozen BK431.out 2; have hfz11_3 := blk_frozen BK431.out 3; have hfz11_4 := blk_frozen BK431.out 4; have hfz11_5 := blk_frozen BK431.out 5) | ((with_reducible refine gate_callee (f := 14) rfl ?_); refine goesL_ (some 16) rfl rfl Tryz.func14 (by kernel_rfl) rfl #[.agg #[.string a1_0, .int .i64 a1_1, .int .i64 a1_2, .string a1_3, .bool a1_4, .int .i64 a1_5]] rfl (by (try simp only [List.map_toArray, List.map_cons, List.map_nil]); first | done | rfl | (simp only [List.length_drop, List.length_take]; rfl) | (simp only [ByteArray.size_append, Int.natCast_add]; done) | (simp only [ByteArray.size_append, Int.natCast_add]; rfl) | (simp only [Array.mk.injEq, List.cons.injEq, Value.int.injEq, true_and, and_true]; (try simp only [mx, mn, wrap64] at *); omega)) ?_; (with_reducible refine (crit_Key.calls k a1_0 a1_1 a1_2 a1_3 a1_4 a1_5 t434 t435 _ A4.out (LaidAt hL0 (by repeat (first | (with_reducible first | exact HB.out | apply below_alloc | apply pw_below_drewN | apply below_drew1 | refine below_set ?_ GE430.out | refine below_set ?_ GE431.out) | exact HB.out)))).mono ?_); rintro e w12 ⟨rfl, hb⟩; refine ⟨_, rfl, ?_⟩; have n0_ := Aside0.mk (blk_below (g := gb430) (o := .cells #[.string a0_0, .int .i64 a0_1, .int .i64 a0_2, .string a0_3, .bool a0_4, .int .i64 a0_5] 27 (0, 0)) (by (with_reducible repeat (first | refine blk_drewN ?_ _ | refine blk_drew ?_ | refine blk_alloc ?_ _)); exact BK430.out) hb); have n1_ := Aside0.mk (blk_below (g := gb431) (o := .cells #[.string a1_0, .int .i64 a1_1, .int .i64 a1_2, .string a1_3, .bool a1_4, .int .i64 a1_5] 27 (0, 0)) (by (with_reducible repeat (first | refine blk_drewN ?_ _ | refine blk_drew ?_ | refine blk_alloc ?_ _)); exact BK431.out) hb); have n2_ := Aside0.mk (below_step (by repeat (first | (with_reducible first | exact HB.out | apply below_alloc | apply pw_below_drewN | apply below_drew1 | refine below_set ?_ GE430.out | refine below_set ?_ GE431.out) | exact HB.out)) hb); clear BK430; clear BK431; clear HB; have BK430 := n0_; have BK431 := n1_; have HB := n2_; clear n0_ n1_ n2_; (try clear hb); (try clear hb2); (try clear hk); (try clear hi)))
  (try simp only [Act.put, List.setIfInBounds_toArray, List.set_cons_zero, List.set_cons_succ])
  go_cut [36] (fun v36 wc => ∃ (kq : Nat) (x36_4 : Bool), v36 = .bool x36_4 ∧ Aside0 (foolscaplaw13_CritKeys.j0 kq t432 t433 t434 t435 x36_4 a0_0 a0_1 a0_2 a0_3 a0_4 a0_5 a1_0 a1_1 a1_2 a1_3 a1_4 a1_5 = some r) ∧ Aside0 (kq ≤ k) ∧ Aside0 (wc.heap[gb430]? = some (.cells #[.string a0_0, .int .i64 a0_1, .int .i64 a0_2, .string a0_3, .bool a0_4, .int .i64 a0_5] 27 (0, 0))) ∧ Aside0 (wc.heap[gb431]? = some (.cells #[.string a1_0, .int .i64 a1_1, .int .i64 a1_2, .string a1_3, .bool a1_4, .int .i64 a1_5] 27 (0, 0))) ∧ Aside0 (Below w.heap.size w wc))
  case first =>
    have H := HC5.out
    clear HC5
    replace H := Option.bind_eq_some_iff.mp H
    obtain ⟨t436, A130, H⟩ := H
    replace H : (if (t433 != t436) = true then (foolscaplaw13_CritKeys.j0 k t432 t433 t434 t435 true a0_0 a0_1 a0_2 a0_3 a0_4 a0_5 a1_0 a1_1 a1_2 a1_3 a1_4 a1_5) else ((foolscapref13_Keyed.f k a1_0 a1_1 a1_2 a1_3 a1_4 a1_5).bind fun t437 => (if (t435 != t437) = true then (foolscaplaw13_CritKeys.j0 k t432 t433 t434 t435 true a0_0 a0_1 a0_2 a0_3 a0_4 a0_5 a1_0 a1_1 a1_2 a1_3 a1_4 a1_5) else (if t433 = true then (foolscaplaw13_CritKeys.j0 k t432 t433 t434 t435 false a0_0 a0_1 a0_2 a0_3 a0_4 a0_5 a1_0 a1_1 a1_2 a1_3 a1_4 a1_5) else (foolscaplaw13_CritKeys.j0 k t432 t433 t434 t435 (t432.toList != ([] : List UInt8)) a0_0 a0_1 a0_2 a0_3 a0_4 a0_5 a1_0 a1_1 a1_2 a1_3 a1_4 a1_5))))) = some r := H
    have A13 := Aside0.mk A130
    clear A130
    by_cases c14 : (t433 != t436) = true
    · rw [if_pos c14] at H
      have c14b0 : (t433 != t436) = true := c14
      (try (have c14b1 : decide (t433 = t436) = false := by simpa using c14))
      (try (have c14b2 : (t433 == t436) = false := by simpa using c14))
      (try (have c14b3 : ¬ (t433 = t436) := by simpa using c14))
      clear c14
      (first | rw [c14b0] | (simp only [i64_w, i32_w]; rw [c14b0]) | skip)
      have H' := Aside0.mk H
      clear H
      have hnb15 := NB430_431.out
      have hnc15 := NB431_430.out
      have hcz16_0 : w12.cell? ⟨gb430, 0, none⟩ = some (.string a0_0) := (blk_cell BK430.out 0).trans rfl
      have hcz16_1 : w12.cell? ⟨gb430, 1, none⟩ = some (.int .i64 a0_1) := (blk_cell BK430.out 1).trans rfl
      have hcz16_2 : w12.cell? ⟨gb430, 2, none⟩ = some (.int .i64 a0_2) := (blk_cell BK430.out 2).trans rfl
      have hcz16_3 : w12.cell? ⟨gb430, 3, none⟩ = some (.string a0_3) := (blk_cell BK430.out 3).trans rfl
      have hcz16_4 : w12.cell? ⟨gb430, 4, none⟩ = some (.bool a0_4) := (blk_cell BK430.out 4).trans rfl
      have hcz16_5 : w12.cell? ⟨gb430, 5, none⟩ = some (.int .i64 a0_5) := (blk_cell BK430.out 5).trans rfl
      have hfz16_0 := blk_frozen BK430.out 0
      have hfz16_1 := blk_frozen BK430.out 1
      have hfz16_2 := blk_frozen BK430.out 2
      have hfz16_3 := blk_frozen BK430.out 3
      have hfz16_4 := blk_frozen BK430.out 4
      have hfz16_5 := blk_frozen BK430.out 5
      go_wp2_with (first | ((with_reducible refine gate_callee (f := 15) rfl ?_); refine goesL_ (some 21) rfl rfl Tryz.func15 (by kernel_rfl) rfl #[.agg #[.string a0_0, .int .i64 a0_1, .int .i64 a0_2, .string a0_3, .bool a0_4, .int .i64 a0_5]] rfl (by (try simp only [List.map_toArray, List.map_cons, List.map_nil]); first | done | rfl | (simp only [List.length_drop, List.length_take]; rfl) | (simp only [ByteArray.size_append, Int.natCast_add]; done) | (simp only [ByteArray.size_append, Int.natCast_add]; rfl) | (simp only [Array.mk.injEq, List.cons.injEq, Value.int.injEq, true_and, and_true]; (try simp only [mx, mn, wrap64] at *); omega)) ?_; (with_reducible refine (foolscapref13_Keyed.calls k a0_0 a0_1 a0_2 a0_3 a0_4 a0_5 t436 _ A13.out).mono ?_); rintro e w17 ⟨rfl, hb⟩; refine ⟨_, rfl, ?_⟩; have n0_ := Aside0.mk (blk_below (g := gb430) (o := .cells #[.string a0_0, .int .i64 a0_1, .int .i64 a0_2, .string a0_3, .bool a0_4, .int .i64 a0_5] 27 (0, 0)) (by (with_reducible repeat (first | refine blk_drewN ?_ _ | refine blk_drew ?_ | refine blk_alloc ?_ _)); exact BK430.out) hb); have n1_ := Aside0.mk (blk_below (g := gb431) (o := .cells #[.string a1_0, .int .i64 a1_1, .int .i64 a1_2, .string a1_3, .bool a1_4, .int .i64 a1_5] 27 (0, 0)) (by (with_reducible repeat (first | refine blk_drewN ?_ _ | refine blk_drew ?_ | refine blk_alloc ?_ _)); exact BK431.out) hb); have n2_ := Aside0.mk (below_step (by repeat (first | (with_reducible first | exact HB.out | apply below_alloc | apply pw_below_drewN | apply below_drew1 | refine below_set ?_ GE430.out | refine below_set ?_ GE431.out) | exact HB.out)) hb); clear BK430; clear BK431; clear HB; have BK430 := n0_; have BK431 := n1_; have HB := n2_; clear n0_ n1_ n2_; (try clear hb); (try clear hb2); (try clear hk); (try clear hi)))
      go_meet
      case rel => exact ⟨_, (true), (by first | rfl | (simp; done) | (simp [*]; done)), H', ⟨by first | omega | exact Nat.le_refl _⟩, ⟨by (with_reducible repeat (first | refine blk_drewN ?_ _ | refine blk_drew ?_ | refine blk_alloc ?_ _)); exact BK430.out⟩, ⟨by (with_reducible repeat (first | refine blk_drewN ?_ _ | refine blk_drew ?_ | refine blk_alloc ?_ _)); exact BK431.out⟩, ⟨by repeat (first | (with_reducible first | exact HB.out | apply below_alloc | apply pw_below_drewN | apply below_drew1 | refine below_set ?_ GE430.out | refine below_set ?_ GE431.out) | exact HB.out)⟩⟩
    · rw [if_neg c14] at H
      have c14b0 : (t433 != t436) = false := by simpa using c14
      (try (have c14b1 : decide (t433 = t436) = true := by simpa using c14))
      (try (have c14b2 : (t433 == t436) = true := by simpa using c14))
      clear c14
      (first | rw [c14b0] | (simp only [i64_w, i32_w]; rw [c14b0]) | skip)
      replace H := Option.bind_eq_some_iff.mp H
      obtain ⟨t437, A180, H⟩ := H
      replace H : (if (t435 != t437) = true then (foolscaplaw13_CritKeys.j0 k t432 t433 t434 t435 true a0_0 a0_1 a0_2 a0_3 a0_4 a0_5 a1_0 a1_1 a1_2 a1_3 a1_4 a1_5) else (if t433 = true then (foolscaplaw13_CritKeys.j0 k t432 t433 t434 t435 false a0_0 a0_1 a0_2 a0_3 a0_4 a0_5 a1_0 a1_1 a1_2 a1_3 a1_4 a1_5) else (foolscaplaw13_CritKeys.j0 k t432 t433 t434 t435 (t432.toList != ([] : List UInt8)) a0_0 a0_1 a0_2 a0_3 a0_4 a0_5 a1_0 a1_1 a1_2 a1_3 a1_4 a1_5))) = some r := H
      have A18 := Aside0.mk A180
      clear A180
      by_cases c19 : (t435 != t437) = true
      · rw [if_pos c19] at H
        have c19b0 : (t435 != t437) = true := c19
        (try (have c19b1 : decide (t435 = t437) = false := by simpa using c19))
        (try (have c19b2 : (t435 == t437) = false := by simpa using c19))
        (try (have c19b3 : ¬ (t435 = t437) := by simpa using c19))
        clear c19
        have H' := Aside0.mk H
        clear H
        have hnb20 := NB430_431.out
        have hnc20 := NB431_430.out
        have hcz21_0 : w12.cell? ⟨gb430, 0, none⟩ = some (.string a0_0) := (blk_cell BK430.out 0).trans rfl
        have hcz21_1 : w12.cell? ⟨gb430, 1, none⟩ = some (.int .i64 a0_1) := (blk_cell BK430.out 1).trans rfl
        have hcz21_2 : w12.cell? ⟨gb430, 2, none⟩ = some (.int .i64 a0_2) := (blk_cell BK430.out 2).trans rfl
        have hcz21_3 : w12.cell? ⟨gb430, 3, none⟩ = some (.string a0_3) := (blk_cell BK430.out 3).trans rfl
        have hcz21_4 : w12.cell? ⟨gb430, 4, none⟩ = some (.bool a0_4) := (blk_cell BK430.out 4).trans rfl
        have hcz21_5 : w12.cell? ⟨gb430, 5, none⟩ = some (.int .i64 a0_5) := (blk_cell BK430.out 5).trans rfl
        have hfz21_0 := blk_frozen BK430.out 0
        have hfz21_1 := blk_frozen BK430.out 1
        have hfz21_2 := blk_frozen BK430.out 2
        have hfz21_3 := blk_frozen BK430.out 3
        have hfz21_4 := blk_frozen BK430.out 4
        have hfz21_5 := blk_frozen BK430.out 5
        go_wp2_with (first | ((with_reducible refine gate_callee (f := 15) rfl ?_); refine goesL_ (some 21) rfl rfl Tryz.func15 (by kernel_rfl) rfl #[.agg #[.string a0_0, .int .i64 a0_1, .int .i64 a0_2, .string a0_3, .bool a0_4, .int .i64 a0_5]] rfl (by (try simp only [List.map_toArray, List.map_cons, List.map_nil]); first | done | rfl | (simp only [List.length_drop, List.length_take]; rfl) | (simp only [ByteArray.size_append, Int.natCast_add]; done) | (simp only [ByteArray.size_append, Int.natCast_add]; rfl) | (simp only [Array.mk.injEq, List.cons.injEq, Value.int.injEq, true_and, and_true]; (try simp only [mx, mn, wrap64] at *); omega)) ?_; (with_reducible refine (foolscapref13_Keyed.calls k a0_0 a0_1 a0_2 a0_3 a0_4 a0_5 t436 _ A13.out).mono ?_); rintro e w22 ⟨rfl, hb⟩; refine ⟨_, rfl, ?_⟩; have n0_ := Aside0.mk (blk_below (g := gb430) (o := .cells #[.string a0_0, .int .i64 a0_1, .int .i64 a0_2, .string a0_3, .bool a0_4, .int .i64 a0_5] 27 (0, 0)) (by (with_reducible repeat (first | refine blk_drewN ?_ _ | refine blk_drew ?_ | refine blk_alloc ?_ _)); exact BK430.out) hb); have n1_ := Aside0.mk (blk_below (g := gb431) (o := .cells #[.string a1_0, .int .i64 a1_1, .int .i64 a1_2, .string a1_3, .bool a1_4, .int .i64 a1_5] 27 (0, 0)) (by (with_reducible repeat (first | refine blk_drewN ?_ _ | refine blk_drew ?_ | refine blk_alloc ?_ _)); exact BK431.out) hb); have n2_ := Aside0.mk (below_step (by repeat (first | (with_reducible first | exact HB.out | apply below_alloc | apply pw_below_drewN | apply below_drew1 | refine below_set ?_ GE430.out | refine below_set ?_ GE431.out) | exact HB.out)) hb); clear BK430; clear BK431; clear HB; have BK430 := n0_; have BK431 := n1_; have HB := n2_; clear n0_ n1_ n2_; (try clear hb); (try clear hb2); (try clear hk); (try clear hi); have hcz23_0 : w22.cell? ⟨gb431, 0, none⟩ = some (.string a1_0) := (blk_cell BK431.out 0).trans rfl; have hcz23_1 : w22.cell? ⟨gb431, 1, none⟩ = some (.int .i64 a1_1) := (blk_cell BK431.out 1).trans rfl; have hcz23_2 : w22.cell? ⟨gb431, 2, none⟩ = some (.int .i64 a1_2) := (blk_cell BK431.out 2).trans rfl; have hcz23_3 : w22.cell? ⟨gb431, 3, none⟩ = some (.string a1_3) := (blk_cell BK431.out 3).trans rfl; have hcz23_4 : w22.cell? ⟨gb431, 4, none⟩ = some (.bool a1_4) := (blk_cell BK431.out 4).trans rfl; have hcz23_5 : w22.cell? ⟨gb431, 5, none⟩ = some (.int .i64 a1_5) := (blk_cell BK431.out 5).trans rfl; have hfz23_0 := blk_frozen BK431.out 0; have hfz23_1 := blk_frozen BK431.out 1; have hfz23_2 := blk_frozen BK431.out 2; have hfz23_3 := blk_frozen BK431.out 3; have hfz23_4 := blk_frozen BK431.out 4; have hfz23_5 := blk_frozen BK431.out 5) | (go_at_call 15; (with_reducible refine (foolscapref13_Keyed.calls k a1_0 a1_1 a1_2 a1_3 a1_4 a1_5 t437 _ A18.out).mono ?_); rintro e w24 ⟨rfl, hb⟩; have n0_ := Aside0.mk (blk_below (g := gb430) (o := .cells #[.string a0_0, .int .i64 a0_1, .int .i64 a0_2, .string a0_3, .bool a0_4, .int .i64 a0_5] 27 (0, 0)) (by (with_reducible repeat (first | refine blk_drewN ?_ _ | refine blk_drew ?_ | refine blk_alloc ?_ _)); exact BK430.out) hb); have n1_ := Aside0.mk (blk_below (g := gb431) (o := .cells #[.string a1_0, .int .i64 a1_1, .int .i64 a1_2, .string a1_3, .bool a1_4, .int .i64 a1_5] 27 (0, 0)) (by (with_reducible repeat (first | refine blk_drewN ?_ _ | refine blk_drew ?_ | refine blk_alloc ?_ _)); exact BK431.out) hb); have n2_ := Aside0.mk (below_step (by repeat (first | (with_reducible first | exact HB.out | apply below_alloc | apply pw_below_drewN | apply below_drew1 | refine below_set ?_ GE430.out | refine below_set ?_ GE431.out) | exact HB.out)) hb); clear BK430; clear BK431; clear HB; have BK430 := n0_; have BK431 := n1_; have HB := n2_; clear n0_ n1_ n2_; (try clear hb); (try clear hb2); (try clear hk); (try clear hi)))
        go_meet
        case rel => exact ⟨_, (true), (by first | rfl | (simp; done) | (simp [*]; done)), H', ⟨by first | omega | exact Nat.le_refl _⟩, ⟨by (with_reducible repeat (first | refine blk_drewN ?_ _ | refine blk_drew ?_ | refine blk_alloc ?_ _)); exact BK430.out⟩, ⟨by (with_reducible repeat (first | refine blk_drewN ?_ _ | refine blk_drew ?_ | refine blk_alloc ?_ _)); exact BK431.out⟩, ⟨by repeat (first | (with_reducible first | exact HB.out | apply below_alloc | apply pw_below_drewN | apply below_drew1 | refine below_set ?_ GE430.out | refine below_set ?_ GE431.out) | exact HB.out)⟩⟩
      · rw [if_neg c19] at H
        have c19b0 : (t435 != t437) = false := by simpa using c19
        (try (have c19b1 : decide (t435 = t437) = true := by simpa using c19))
        (try (have c19b2 : (t435 == t437) = true := by simpa using c19))
        clear c19
        by_cases c25 : t433 = true
        · subst c25
          have H1 : (foolscaplaw13_CritKeys.j0 k t432 true t434 t435 false a0_0 a0_1 a0_2 a0_3 a0_4 a0_5 a1_0 a1_1 a1_2 a1_3 a1_4 a1_5) = some r := by rw [if_pos rfl] at H; exact H
          clear H
          have H := H1
          clear H1
          have H' := Aside0.mk H
          clear H
          have hnb26 := NB430_431.out
          have hnc26 := NB431_430.out
          have hcz27_0 : w12.cell? ⟨gb430, 0, none⟩ = some (.string a0_0) := (blk_cell BK430.out 0).trans rfl
          have hcz27_1 : w12.cell? ⟨gb430, 1, none⟩ = some (.int .i64 a0_1) := (blk_cell BK430.out 1).trans rfl
          have hcz27_2 : w12.cell? ⟨gb430, 2, none⟩ = some (.int .i64 a0_2) := (blk_cell BK430.out 2).trans rfl
          have hcz27_3 : w12.cell? ⟨gb430, 3, none⟩ = some (.string a0_3) := (blk_cell BK430.out 3).trans rfl
          have hcz27_4 : w12.cell? ⟨gb430, 4, none⟩ = some (.bool a0_4) := (blk_cell BK430.out 4).trans rfl
          have hcz27_5 : w12.cell? ⟨gb430, 5, none⟩ = some (.int .i64 a0_5) := (blk_cell BK430.out 5).trans rfl
          have hfz27_0 := blk_frozen BK430.out 0
          have hfz27_1 := blk_frozen BK430.out 1
          have hfz27_2 := blk_frozen BK430.out 2
          have hfz27_3 := blk_frozen BK430.out 3
          have hfz27_4 := blk_frozen BK430.out 4
          have hfz27_5 := blk_frozen BK430.out 5
          go_wp2_with (first | ((with_reducible refine gate_callee (f := 15) rfl ?_); refine goesL_ (some 21) rfl rfl Tryz.func15 (by kernel_rfl) rfl #[.agg #[.string a0_0, .int .i64 a0_1, .int .i64 a0_2, .string a0_3, .bool a0_4, .int .i64 a0_5]] rfl (by (try simp only [List.map_toArray, List.map_cons, List.map_nil]); first | done | rfl | (simp only [List.length_drop, List.length_take]; rfl) | (simp only [ByteArray.size_append, Int.natCast_add]; done) | (simp only [ByteArray.size_append, Int.natCast_add]; rfl) | (simp only [Array.mk.injEq, List.cons.injEq, Value.int.injEq, true_and, and_true]; (try simp only [mx, mn, wrap64] at *); omega)) ?_; (with_reducible refine (foolscapref13_Keyed.calls k a0_0 a0_1 a0_2 a0_3 a0_4 a0_5 t436 _ A13.out).mono ?_); rintro e w28 ⟨rfl, hb⟩; refine ⟨_, rfl, ?_⟩; have n0_ := Aside0.mk (blk_below (g := gb430) (o := .cells #[.string a0_0, .int .i64 a0_1, .int .i64 a0_2, .string a0_3, .bool a0_4, .int .i64 a0_5] 27 (0, 0)) (by (with_reducible repeat (first | refine blk_drewN ?_ _ | refine blk_drew ?_ | refine blk_alloc ?_ _)); exact BK430.out) hb); have n1_ := Aside0.mk (blk_below (g := gb431) (o := .cells #[.string a1_0, .int .i64 a1_1, .int .i64 a1_2, .string a1_3, .bool a1_4, .int .i64 a1_5] 27 (0, 0)) (by (with_reducible repeat (first | refine blk_drewN ?_ _ | refine blk_drew ?_ | refine blk_alloc ?_ _)); exact BK431.out) hb); have n2_ := Aside0.mk (below_step (by repeat (first | (with_reducible first | exact HB.out | apply below_alloc | apply pw_below_drewN | apply below_drew1 | refine below_set ?_ GE430.out | refine below_set ?_ GE431.out) | exact HB.out)) hb); clear BK430; clear BK431; clear HB; have BK430 := n0_; have BK431 := n1_; have HB := n2_; clear n0_ n1_ n2_; (try clear hb); (try clear hb2); (try clear hk); (try clear hi); have hcz29_0 : w28.cell? ⟨gb431, 0, none⟩ = some (.string a1_0) := (blk_cell BK431.out 0).trans rfl; have hcz29_1 : w28.cell? ⟨gb431, 1, none⟩ = some (.int .i64 a1_1) := (blk_cell BK431.out 1).trans rfl; have hcz29_2 : w28.cell? ⟨gb431, 2, none⟩ = some (.int .i64 a1_2) := (blk_cell BK431.out 2).trans rfl; have hcz29_3 : w28.cell? ⟨gb431, 3, none⟩ = some (.string a1_3) := (blk_cell BK431.out 3).trans rfl; have hcz29_4 : w28.cell? ⟨gb431, 4, none⟩ = some (.bool a1_4) := (blk_cell BK431.out 4).trans rfl; have hcz29_5 : w28.cell? ⟨gb431, 5, none⟩ = some (.int .i64 a1_5) := (blk_cell BK431.out 5).trans rfl; have hfz29_0 := blk_frozen BK431.out 0; have hfz29_1 := blk_frozen BK431.out 1; have hfz29_2 := blk_frozen BK431.out 2; have hfz29_3 := blk_frozen BK431.out 3; have hfz29_4 := blk_frozen BK431.out 4; have hfz29_5 := blk_frozen BK431.out 5) | (go_at_call 15; (with_reducible refine (foolscapref13_Keyed.calls k a1_0 a1_1 a1_2 a1_3 a1_4 a1_5 t437 _ A18.out).mono ?_); rintro e w30 ⟨rfl, hb⟩; have n0_ := Aside0.mk (blk_below (g := gb430) (o := .cells #[.string a0_0, .int .i64 a0_1, .int .i64 a0_2, .string a0_3, .bool a0_4, .int .i64 a0_5] 27 (0, 0)) (by (with_reducible repeat (first | refine blk_drewN ?_ _ | refine blk_drew ?_ | refine blk_alloc ?_ _)); exact BK430.out) hb); have n1_ := Aside0.mk (blk_below (g := gb431) (o := .cells #[.string a1_0, .int .i64 a1_1, .int .i64 a1_2, .string a1_3, .bool a1_4, .int .i64 a1_5] 27 (0, 0)) (by (with_reducible repeat (first | refine blk_drewN ?_ _ | refine blk_drew ?_ | refine blk_alloc ?_ _)); exact BK431.out) hb); have n2_ := Aside0.mk (below_step (by repeat (first | (with_reducible first | exact HB.out | apply below_alloc | apply pw_below_drewN | apply below_drew1 | refine below_set ?_ GE430.out | refine below_set ?_ GE431.out) | exact HB.out)) hb); clear BK430; clear BK431; clear HB; have BK430 := n0_; have BK431 := n1_; have HB := n2_; clear n0_ n1_ n2_; (try clear hb); (try clear hb2); (try clear hk); (try clear hi)))
          go_meet
          case rel => exact ⟨_, (false), (by first | rfl | (simp; done) | (simp [*]; done)), H', ⟨by first | omega | exact Nat.le_refl _⟩, ⟨by (with_reducible repeat (first | refine blk_drewN ?_ _ | refine blk_drew ?_ | refine blk_alloc ?_ _)); exact BK430.out⟩, ⟨by (with_reducible repeat (first | refine blk_drewN ?_ _ | refine blk_drew ?_ | refine blk_alloc ?_ _)); exact BK431.out⟩, ⟨by repeat (first | (with_reducible first | exact HB.out | apply below_alloc | apply pw_below_drewN | apply below_drew1 | refine below_set ?_ GE430.out | refine below_set ?_ GE431.out) | exact HB.out)⟩⟩
        · replace c25 := Bool.eq_false_iff.mpr c25
          subst c25
          have H1 : (foolscaplaw13_CritKeys.j0 k t432 false t434 t435 (t432.toList != ([] : List UInt8)) a0_0 a0_1 a0_2 a0_3 a0_4 a0_5 a1_0 a1_1 a1_2 a1_3 a1_4 a1_5) = some r := by rw [if_neg (show ¬ (false = true) by decide)] at H; exact H
          clear H
          have H := H1
          clear H1
          have H' := Aside0.mk H
          clear H
          have hnb31 := NB430_431.out
          have hnc31 := NB431_430.out
          have hcz32_0 : w12.cell? ⟨gb430, 0, none⟩ = some (.string a0_0) := (blk_cell BK430.out 0).trans rfl
          have hcz32_1 : w12.cell? ⟨gb430, 1, none⟩ = some (.int .i64 a0_1) := (blk_cell BK430.out 1).trans rfl
          have hcz32_2 : w12.cell? ⟨gb430, 2, none⟩ = some (.int .i64 a0_2) := (blk_cell BK430.out 2).trans rfl
          have hcz32_3 : w12.cell? ⟨gb430, 3, none⟩ = some (.string a0_3) := (blk_cell BK430.out 3).trans rfl
          have hcz32_4 : w12.cell? ⟨gb430, 4, none⟩ = some (.bool a0_4) := (blk_cell BK430.out 4).trans rfl
          have hcz32_5 : w12.cell? ⟨gb430, 5, none⟩ = some (.int .i64 a0_5) := (blk_cell BK430.out 5).trans rfl
          have hfz32_0 := blk_frozen BK430.out 0
          have hfz32_1 := blk_frozen BK430.out 1
          have hfz32_2 := blk_frozen BK430.out 2
          have hfz32_3 := blk_frozen BK430.out 3
          have hfz32_4 := blk_frozen BK430.out 4
          have hfz32_5 := blk_frozen BK430.out 5
          go_wp2_with (first | ((with_reducible refine gate_callee (f := 15) rfl ?_); refine goesL_ (some 21) rfl rfl Tryz.func15 (by kernel_rfl) rfl #[.agg #[.string a0_0, .int .i64 a0_1, .int .i64 a0_2, .string a0_3, .bool a0_4, .int .i64 a0_5]] rfl (by (try simp only [List.map_toArray, List.map_cons, List.map_nil]); first | done | rfl | (simp only [List.length_drop, List.length_take]; rfl) | (simp only [ByteArray.size_append, Int.natCast_add]; done) | (simp only [ByteArray.size_append, Int.natCast_add]; rfl) | (simp only [Array.mk.injEq, List.cons.injEq, Value.int.injEq, true_and, and_true]; (try simp only [mx, mn, wrap64] at *); omega)) ?_; (with_reducible refine (foolscapref13_Keyed.calls k a0_0 a0_1 a0_2 a0_3 a0_4 a0_5 t436 _ A13.out).mono ?_); rintro e w33 ⟨rfl, hb⟩; refine ⟨_, rfl, ?_⟩; have n0_ := Aside0.mk (blk_below (g := gb430) (o := .cells #[.string a0_0, .int .i64 a0_1, .int .i64 a0_2, .string a0_3, .bool a0_4, .int .i64 a0_5] 27 (0, 0)) (by (with_reducible repeat (first | refine blk_drewN ?_ _ | refine blk_drew ?_ | refine blk_alloc ?_ _)); exact BK430.out) hb); have n1_ := Aside0.mk (blk_below (g := gb431) (o := .cells #[.string a1_0, .int .i64 a1_1, .int .i64 a1_2, .string a1_3, .bool a1_4, .int .i64 a1_5] 27 (0, 0)) (by (with_reducible repeat (first | refine blk_drewN ?_ _ | refine blk_drew ?_ | refine blk_alloc ?_ _)); exact BK431.out) hb); have n2_ := Aside0.mk (below_step (by repeat (first | (with_reducible first | exact HB.out | apply below_alloc | apply pw_below_drewN | apply below_drew1 | refine below_set ?_ GE430.out | refine below_set ?_ GE431.out) | exact HB.out)) hb); clear BK430; clear BK431; clear HB; have BK430 := n0_; have BK431 := n1_; have HB := n2_; clear n0_ n1_ n2_; (try clear hb); (try clear hb2); (try clear hk); (try clear hi); have hcz34_0 : w33.cell? ⟨gb431, 0, none⟩ = some (.string a1_0) := (blk_cell BK431.out 0).trans rfl; have hcz34_1 : w33.cell? ⟨gb431, 1, none⟩ = some (.int .i64 a1_1) := (blk_cell BK431.out 1).trans rfl; have hcz34_2 : w33.cell? ⟨gb431, 2, none⟩ = some (.int .i64 a1_2) := (blk_cell BK431.out 2).trans rfl; have hcz34_3 : w33.cell? ⟨gb431, 3, none⟩ = some (.string a1_3) := (blk_cell BK431.out 3).trans rfl; have hcz34_4 : w33.cell? ⟨gb431, 4, none⟩ = some (.bool a1_4) := (blk_cell BK431.out 4).trans rfl; have hcz34_5 : w33.cell? ⟨gb431, 5, none⟩ = some (.int .i64 a1_5) := (blk_cell BK431.out 5).trans rfl; have hfz34_0 := blk_frozen BK431.out 0; have hfz34_1 := blk_frozen BK431.out 1; have hfz34_2 := blk_frozen BK431.out 2; have hfz34_3 := blk_frozen BK431.out 3; have hfz34_4 := blk_frozen BK431.out 4; have hfz34_5 := blk_frozen BK431.out 5) | (go_at_call 15; (with_reducible refine (foolscapref13_Keyed.calls k a1_0 a1_1 a1_2 a1_3 a1_4 a1_5 t437 _ A18.out).mono ?_); rintro e w35 ⟨rfl, hb⟩; have n0_ := Aside0.mk (blk_below (g := gb430) (o := .cells #[.string a0_0, .int .i64 a0_1, .int .i64 a0_2, .string a0_3, .bool a0_4, .int .i64 a0_5] 27 (0, 0)) (by (with_reducible repeat (first | refine blk_drewN ?_ _ | refine blk_drew ?_ | refine blk_alloc ?_ _)); exact BK430.out) hb); have n1_ := Aside0.mk (blk_below (g := gb431) (o := .cells #[.string a1_0, .int .i64 a1_1, .int .i64 a1_2, .string a1_3, .bool a1_4, .int .i64 a1_5] 27 (0, 0)) (by (with_reducible repeat (first | refine blk_drewN ?_ _ | refine blk_drew ?_ | refine blk_alloc ?_ _)); exact BK431.out) hb); have n2_ := Aside0.mk (below_step (by repeat (first | (with_reducible first | exact HB.out | apply below_alloc | apply pw_below_drewN | apply below_drew1 | refine below_set ?_ GE430.out | refine below_set ?_ GE431.out) | exact HB.out)) hb); clear BK430; clear BK431; clear HB; have BK430 := n0_; have BK431 := n1_; have HB := n2_; clear n0_ n1_ n2_; (try clear hb); (try clear hb2); (try clear hk); (try clear hi)))
          go_meet
          case rel => exact ⟨_, ((t432.toList != ([] : List UInt8))), (by first | rfl | (simp; done) | (simp [*]; done) | (simp; cases t432.toList <;> rfl) | (simp [*]; cases t432.toList <;> rfl)), H', ⟨by first | omega | exact Nat.le_refl _⟩, ⟨by (with_reducible repeat (first | refine blk_drewN ?_ _ | refine blk_drew ?_ | refine blk_alloc ?_ _)); exact BK430.out⟩, ⟨by (with_reducible repeat (first | refine blk_drewN ?_ _ | refine blk_drew ?_ | refine blk_alloc ?_ _)); exact BK431.out⟩, ⟨by repeat (first | (with_reducible first | exact HB.out | apply below_alloc | apply pw_below_drewN | apply below_drew1 | refine below_set ?_ GE430.out | refine below_set ?_ GE431.out) | exact HB.out)⟩⟩
  case rest =>
    clear HC5
    try clear c1
    try clear c2
    try clear p2
    try clear c3
    try clear c6
    try clear p6
    try clear c8
    try clear c14
    try clear c14b0
    try clear c14b1
    try clear c14b2
    try clear c15
    try clear c19
    try clear c19b0
    try clear c19b1
    try clear c19b2
    try clear c20
    try clear c25
    try clear c26
    try clear c31
    try clear hcz11_0
    try clear hcz11_1
    try clear hcz11_2
    try clear hcz11_3
    try clear hcz11_4
    try clear hcz11_5
    try clear hcz16_0
    try clear hcz16_1
    try clear hcz16_2
    try clear hcz16_3
    try clear hcz16_4
    try clear hcz16_5
    try clear hcz21_0
    try clear hcz21_1
    try clear hcz21_2
    try clear hcz21_3
    try clear hcz21_4
    try clear hcz21_5
    try clear hcz23_0
    try clear hcz23_1
    try clear hcz23_2
    try clear hcz23_3
    try clear hcz23_4
    try clear hcz23_5
    try clear hcz27_0
    try clear hcz27_1
    try clear hcz27_2
    try clear hcz27_3
    try clear hcz27_4
    try clear hcz27_5
    try clear hcz29_0
    try clear hcz29_1
    try clear hcz29_2
    try clear hcz29_3
    try clear hcz29_4
    try clear hcz29_5
    try clear hcz32_0
    try clear hcz32_1
    try clear hcz32_2
    try clear hcz32_3
    try clear hcz32_4
    try clear hcz32_5
    try clear hcz34_0
    try clear hcz34_1
    try clear hcz34_2
    try clear hcz34_3
    try clear hcz34_4
    try clear hcz34_5
    try clear hcz9_0
    try clear hcz9_1
    try clear hcz9_2
    try clear hcz9_3
    try clear hcz9_4
    try clear hcz9_5
    try clear hfz11_0
    try clear hfz11_1
    try clear hfz11_2
    try clear hfz11_3
    try clear hfz11_4
    try clear hfz11_5
    try clear hfz16_0
    try clear hfz16_1
    try clear hfz16_2
    try clear hfz16_3
    try clear hfz16_4
    try clear hfz16_5
    try clear hfz21_0
    try clear hfz21_1
    try clear hfz21_2
    try clear hfz21_3
    try clear hfz21_4
    try clear hfz21_5
    try clear hfz23_0
    try clear hfz23_1
    try clear hfz23_2
    try clear hfz23_3
    try clear hfz23_4
    try clear hfz23_5
    try clear hfz27_0
    try clear hfz27_1
    try clear hfz27_2
    try clear hfz27_3
    try clear hfz27_4
    try clear hfz27_5
    try clear hfz29_0
    try clear hfz29_1
    try clear hfz29_2
    try clear hfz29_3
    try clear hfz29_4
    try clear hfz29_5
    try clear hfz32_0
    try clear hfz32_1
    try clear hfz32_2
    try clear hfz32_3
    try clear hfz32_4
    try clear hfz32_5
    try clear hfz34_0
    try clear hfz34_1
    try clear hfz34_2
    try clear hfz34_3
    try clear hfz34_4
    try clear hfz34_5
    try clear hfz9_0
    try clear hfz9_1
    try clear hfz9_2
    try clear hfz9_3
    try clear hfz9_4
    try clear hfz9_5
    obtain ⟨kq, x36_4, rfl, HA, HJ4, BK430, BK431, HB⟩ := hcut
    cases kq with
    | zero => exact absurd HA.out (by simp [foolscaplaw13_CritKeys.j0])
    | succ kj4 =>
      have H := HA.out
      clear HA
      simp only [foolscaplaw13_CritKeys.j0] at H
      by_cases c36 : x36_4 = true
      · subst c36
        have H1 : (none) = some r := by rw [if_pos rfl] at H; exact H
        clear H
        have H := H1
        clear H1
        exact absurd H (by simp)
      · replace c36 := Bool.eq_false_iff.mpr c36
        subst c36
        have H1 : (if t433 = true then (if t435 = true then ((foolscapref13_SameKey.f kj4 a0_0 a0_1 a0_2 a0_3 a0_4 a0_5 a1_0 a1_1 a1_2 a1_3 a1_4 a1_5).bind fun t438 => (if ((t432.toList == t434.toList) == t438) = true then ((foolscaplaw13_lives.f kj4).bind fun t439 => (some t439)) else (none))) else ((foolscaplaw13_lives.f kj4).bind fun t440 => (some t440))) else ((foolscaplaw13_lives.f kj4).bind fun t441 => (some t441))) = some r := by rw [if_neg (show ¬ (false = true) by decide)] at H; exact H
        clear H
        have H := H1
        clear H1
        by_cases c37 : t433 = true
        · subst c37
          have H1 : (if t435 = true then ((foolscapref13_SameKey.f kj4 a0_0 a0_1 a0_2 a0_3 a0_4 a0_5 a1_0 a1_1 a1_2 a1_3 a1_4 a1_5).bind fun t438 => (if ((t432.toList == t434.toList) == t438) = true then ((foolscaplaw13_lives.f kj4).bind fun t439 => (some t439)) else (none))) else ((foolscaplaw13_lives.f kj4).bind fun t440 => (some t440))) = some r := by rw [if_pos rfl] at H; exact H
          clear H
          have H := H1
          clear H1
          by_cases c38 : t435 = true
          · subst c38
            have H1 : ((foolscapref13_SameKey.f kj4 a0_0 a0_1 a0_2 a0_3 a0_4 a0_5 a1_0 a1_1 a1_2 a1_3 a1_4 a1_5).bind fun t438 => (if ((t432.toList == t434.toList) == t438) = true then ((foolscaplaw13_lives.f kj4).bind fun t439 => (some t439)) else (none))) = some r := by rw [if_pos rfl] at H; exact H
            clear H
            have H := H1
            clear H1
            replace H := Option.bind_eq_some_iff.mp H
            obtain ⟨t438, A390, H⟩ := H
            replace H : (if ((t432.toList == t434.toList) == t438) = true then ((foolscaplaw13_lives.f kj4).bind fun t439 => (some t439)) else (none)) = some r := H
            have A39 := Aside0.mk A390
            clear A390
            by_cases c40 : ((t432.toList == t434.toList) == t438) = true
            · rw [if_pos c40] at H
              have c40b0 : ((t432.toList == t434.toList) == t438) = true := c40
              (try (have c40b1 : decide ((t432.toList == t434.toList) = t438) = true := by simpa using c40))
              (try (have c40b2 : ((t432.toList == t434.toList) == t438) = true := by simpa using c40))
              clear c40
              replace H := Option.bind_eq_some_iff.mp H
              obtain ⟨t439, A410, H⟩ := H
              replace H : (some t439) = some r := H
              have A41 := Aside0.mk A410
              clear A410
              obtain rfl := Option.some.inj H
              have hnb42 := NB430_431.out
              have hnc42 := NB431_430.out
              have hcz43_0 : wc.cell? ⟨gb430, 0, none⟩ = some (.string a0_0) := (blk_cell BK430.out 0).trans rfl
              have hcz43_1 : wc.cell? ⟨gb430, 1, none⟩ = some (.int .i64 a0_1) := (blk_cell BK430.out 1).trans rfl
              have hcz43_2 : wc.cell? ⟨gb430, 2, none⟩ = some (.int .i64 a0_2) := (blk_cell BK430.out 2).trans rfl
              have hcz43_3 : wc.cell? ⟨gb430, 3, none⟩ = some (.string a0_3) := (blk_cell BK430.out 3).trans rfl
              have hcz43_4 : wc.cell? ⟨gb430, 4, none⟩ = some (.bool a0_4) := (blk_cell BK430.out 4).trans rfl
              have hcz43_5 : wc.cell? ⟨gb430, 5, none⟩ = some (.int .i64 a0_5) := (blk_cell BK430.out 5).trans rfl
              have hfz43_0 := blk_frozen BK430.out 0
              have hfz43_1 := blk_frozen BK430.out 1
              have hfz43_2 := blk_frozen BK430.out 2
              have hfz43_3 := blk_frozen BK430.out 3
              have hfz43_4 := blk_frozen BK430.out 4
              have hfz43_5 := blk_frozen BK430.out 5
              have hcz44_0 : wc.cell? ⟨gb431, 0, none⟩ = some (.string a1_0) := (blk_cell BK431.out 0).trans rfl
              have hcz44_1 : wc.cell? ⟨gb431, 1, none⟩ = some (.int .i64 a1_1) := (blk_cell BK431.out 1).trans rfl
              have hcz44_2 : wc.cell? ⟨gb431, 2, none⟩ = some (.int .i64 a1_2) := (blk_cell BK431.out 2).trans rfl
              have hcz44_3 : wc.cell? ⟨gb431, 3, none⟩ = some (.string a1_3) := (blk_cell BK431.out 3).trans rfl
              have hcz44_4 : wc.cell? ⟨gb431, 4, none⟩ = some (.bool a1_4) := (blk_cell BK431.out 4).trans rfl
              have hcz44_5 : wc.cell? ⟨gb431, 5, none⟩ = some (.int .i64 a1_5) := (blk_cell BK431.out 5).trans rfl
              have hfz44_0 := blk_frozen BK431.out 0
              have hfz44_1 := blk_frozen BK431.out 1
              have hfz44_2 := blk_frozen BK431.out 2
              have hfz44_3 := blk_frozen BK431.out 3
              have hfz44_4 := blk_frozen BK431.out 4
              have hfz44_5 := blk_frozen BK431.out 5
              go_wp2_with (first | (go_at_call 16; (with_reducible refine (foolscapref13_SameKey.calls kj4 a0_0 a0_1 a0_2 a0_3 a0_4 a0_5 a1_0 a1_1 a1_2 a1_3 a1_4 a1_5 t438 _ A39.out).mono ?_); rintro e w45 ⟨rfl, hb⟩; have n0_ := Aside0.mk (blk_below (g := gb430) (o := .cells #[.string a0_0, .int .i64 a0_1, .int .i64 a0_2, .string a0_3, .bool a0_4, .int .i64 a0_5] 27 (0, 0)) (by (with_reducible repeat (first | refine blk_drewN ?_ _ | refine blk_drew ?_ | refine blk_alloc ?_ _)); exact BK430.out) hb); have n1_ := Aside0.mk (blk_below (g := gb431) (o := .cells #[.string a1_0, .int .i64 a1_1, .int .i64 a1_2, .string a1_3, .bool a1_4, .int .i64 a1_5] 27 (0, 0)) (by (with_reducible repeat (first | refine blk_drewN ?_ _ | refine blk_drew ?_ | refine blk_alloc ?_ _)); exact BK431.out) hb); have n2_ := Aside0.mk (below_step (by repeat (first | (with_reducible first | exact HB.out | apply below_alloc | apply pw_below_drewN | apply below_drew1 | refine below_set ?_ GE430.out | refine below_set ?_ GE431.out) | exact HB.out)) hb); clear BK430; clear BK431; clear HB; have BK430 := n0_; have BK431 := n1_; have HB := n2_; clear n0_ n1_ n2_; (try clear hb); (try clear hb2); (try clear hk); (try clear hi)) | (go_at_call 11; (with_reducible refine (foolscaplaw13_lives.calls kj4  t439 _ A41.out).mono ?_); rintro e w46 ⟨rfl, hb⟩; have n0_ := Aside0.mk (blk_below (g := gb430) (o := .cells #[.string a0_0, .int .i64 a0_1, .int .i64 a0_2, .string a0_3, .bool a0_4, .int .i64 a0_5] 27 (0, 0)) (by (with_reducible repeat (first | refine blk_drewN ?_ _ | refine blk_drew ?_ | refine blk_alloc ?_ _)); exact BK430.out) hb); have n1_ := Aside0.mk (blk_below (g := gb431) (o := .cells #[.string a1_0, .int .i64 a1_1, .int .i64 a1_2, .string a1_3, .bool a1_4, .int .i64 a1_5] 27 (0, 0)) (by (with_reducible repeat (first | refine blk_drewN ?_ _ | refine blk_drew ?_ | refine blk_alloc ?_ _)); exact BK431.out) hb); have n2_ := Aside0.mk (below_step (by repeat (first | (with_reducible first | exact HB.out | apply below_alloc | apply pw_below_drewN | apply below_drew1 | refine below_set ?_ GE430.out | refine below_set ?_ GE431.out) | exact HB.out)) hb); clear BK430; clear BK431; clear HB; have BK430 := n0_; have BK431 := n1_; have HB := n2_; clear n0_ n1_ n2_; (try clear hb); (try clear hb2); (try clear hk); (try clear hi)))
              go_ret
              exact ⟨by first | rfl | (simp [errW_none, errW_some] <;> rfl) | (simp [*, errW_none, errW_some] <;> rfl), by repeat (first | (with_reducible first | exact HB.out | apply below_alloc | apply pw_below_drewN | apply below_drew1 | refine below_set ?_ GE430.out | refine below_set ?_ GE431.out) | exact HB.out)⟩
            · rw [if_neg c40] at H
              exact absurd H (by simp)
          · replace c38 := Bool.eq_false_iff.mpr c38
            subst c38
            have H1 : ((foolscaplaw13_lives.f kj4).bind fun t440 => (some t440)) = some r := by rw [if_neg (show ¬ (false = true) by decide)] at H; exact H
            clear H
            have H := H1
            clear H1
            replace H := Option.bind_eq_some_iff.mp H
            obtain ⟨t440, A470, H⟩ := H
            replace H : (some t440) = some r := H
            have A47 := Aside0.mk A470
            clear A470
            obtain rfl := Option.some.inj H
            go_wp2_with (first | (go_at_call 11; (with_reducible refine (foolscaplaw13_lives.calls kj4  t440 _ A47.out).mono ?_); rintro e w48 ⟨rfl, hb⟩; have n0_ := Aside0.mk (blk_below (g := gb430) (o := .cells #[.string a0_0, .int .i64 a0_1, .int .i64 a0_2, .string a0_3, .bool a0_4, .int .i64 a0_5] 27 (0, 0)) (by (with_reducible repeat (first | refine blk_drewN ?_ _ | refine blk_drew ?_ | refine blk_alloc ?_ _)); exact BK430.out) hb); have n1_ := Aside0.mk (blk_below (g := gb431) (o := .cells #[.string a1_0, .int .i64 a1_1, .int .i64 a1_2, .string a1_3, .bool a1_4, .int .i64 a1_5] 27 (0, 0)) (by (with_reducible repeat (first | refine blk_drewN ?_ _ | refine blk_drew ?_ | refine blk_alloc ?_ _)); exact BK431.out) hb); have n2_ := Aside0.mk (below_step (by repeat (first | (with_reducible first | exact HB.out | apply below_alloc | apply pw_below_drewN | apply below_drew1 | refine below_set ?_ GE430.out | refine below_set ?_ GE431.out) | exact HB.out)) hb); clear BK430; clear BK431; clear HB; have BK430 := n0_; have BK431 := n1_; have HB := n2_; clear n0_ n1_ n2_; (try clear hb); (try clear hb2); (try clear hk); (try clear hi)))
            go_ret
            exact ⟨by first | rfl | (simp [errW_none, errW_some] <;> rfl) | (simp [*, errW_none, errW_some] <;> rfl), by repeat (first | (with_reducible first | exact HB.out | apply below_alloc | apply pw_below_drewN | apply below_drew1 | refine below_set ?_ GE430.out | refine below_set ?_ GE431.out) | exact HB.out)⟩
        · replace c37 := Bool.eq_false_iff.mpr c37
          subst c37
          have H1 : ((foolscaplaw13_lives.f kj4).bind fun t441 => (some t441)) = some r := by rw [if_neg (show ¬ (false = true) by decide)] at H; exact H
          clear H
          have H := H1
          clear H1
          replace H := Option.bind_eq_some_iff.mp H
          obtain ⟨t441, A490, H⟩ := H
          replace H : (some t441) = some r := H
          have A49 := Aside0.mk A490
          clear A490
          obtain rfl := Option.some.inj H
          go_wp2_with (first | (go_at_call 11; (with_reducible refine (foolscaplaw13_lives.calls kj4  t441 _ A49.out).mono ?_); rintro e w50 ⟨rfl, hb⟩; have n0_ := Aside0.mk (blk_below (g := gb430) (o := .cells #[.string a0_0, .int .i64 a0_1, .int .i64 a0_2, .string a0_3, .bool a0_4, .int .i64 a0_5] 27 (0, 0)) (by (with_reducible repeat (first | refine blk_drewN ?_ _ | refine blk_drew ?_ | refine blk_alloc ?_ _)); exact BK430.out) hb); have n1_ := Aside0.mk (blk_below (g := gb431) (o := .cells #[.string a1_0, .int .i64 a1_1, .int .i64 a1_2, .string a1_3, .bool a1_4, .int .i64 a1_5] 27 (0, 0)) (by (with_reducible repeat (first | refine blk_drewN ?_ _ | refine blk_drew ?_ | refine blk_alloc ?_ _)); exact BK431.out) hb); have n2_ := Aside0.mk (below_step (by repeat (first | (with_reducible first | exact HB.out | apply below_alloc | apply pw_below_drewN | apply below_drew1 | refine below_set ?_ GE430.out | refine below_set ?_ GE431.out) | exact HB.out)) hb); clear BK430; clear BK431; clear HB; have BK430 := n0_; have BK431 := n1_; have HB := n2_; clear n0_ n1_ n2_; (try clear hb); (try clear hb2); (try clear hk); (try clear hi)))
          go_ret
          exact ⟨by first | rfl | (simp [errW_none, errW_some] <;> rfl) | (simp [*, errW_none, errW_some] <;> rfl), by repeat (first | (with_reducible first | exact HB.out | apply below_alloc | apply pw_below_drewN | apply below_drew1 | refine below_set ?_ GE430.out | refine below_set ?_ GE431.out) | exact HB.out)⟩
end Go.Proofs.YtngdggmlfoogcaaGreatDoor.Pr
end
