/-
  What the law CritKeys leans on, out of the texts that were printed and written for this seat: only what its proof mentions (gathered by a program of the author's).
-/
import Derived.Test.YtngdggmlfoogcaaGreatDoorSCritKeys4
import Derived.Test.YtngdggmlfoogcaaGreatDoorSCritKeys7
import Derived.Test.YtngdggmlfoogcaaGreatDoorSCritKeys10
import Derived.Test.YtngdggmlfoogcaaGreatDoorSCritKeys9
section
namespace Go.Proofs.YtngdggmlfoogcaaGreatDoor.Pr
open Go.RowKit Go.Proofs.YtngdggmlfoogcaaGreatDoorW.PrintWords Go.Proofs.YtngdggmlfoogcaaGreatDoorW.PrintLast Go.Proofs.YtngdggmlfoogcaaGreatDoorW.PrintMore
attribute [local go_sem] max2_int min2_int max_two min_two max_three min_three max_four min_four   -- for this text's walks alone
set_option linter.unusedVariables false
set_option linter.unusedSimpArgs false
def value_code.f (a0_0 : Int) (a0_1 : Int) (a0_2 : ByteArray) (a0_3 : Bool) (a0_4 : Int) : Option (Int) := (value_Check.f a0_0 a0_1 a0_2 a0_3 a0_4).bind fun t391 => (if t391 = 0 then (some a0_4) else (some 2))
set_option maxHeartbeats 8000000 in
set_option maxRecDepth 100000 in
theorem value_code.calls (a0_0 : Int) (a0_1 : Int) (a0_2 : ByteArray) (a0_3 : Bool) (a0_4 : Int) (r : Int) (w : World) (h : value_code.f a0_0 a0_1 a0_2 a0_3 a0_4 = some r) :
    Calls Tryz.prog 72 #[.agg #[.int .i64 a0_0, .int .i64 a0_1, .string a0_2, .bool a0_3, .int .i64 a0_4]] w fun e w' => e = .returned (.int .i64 r) ∧ Below w.heap.size w w' := by
  have hu25 := Tryz.underlying25
  have HB := Aside0.mk (Below.refl w.heap.size w)
  have H : ((value_Check.f a0_0 a0_1 a0_2 a0_3 a0_4).bind fun t391 => (if t391 = 0 then (some a0_4) else (some 2))) = some r := h
  clear h
  replace H := Option.bind_eq_some_iff.mp H
  obtain ⟨t391, A20, H⟩ := H
  replace H : (if t391 = 0 then (some a0_4) else (some 2)) = some r := H
  have A2 := Aside0.mk A20
  clear A20
  by_cases c3 : t391 = 0
  · rw [if_pos c3] at H
    have c3b0 : (t391 == 0) = true := beq_iff_eq.mpr c3
    have c3b1 : (t391 != 0) = false := bne_eq_false_iff_eq.mpr c3
    clear c3
    obtain rfl := Option.some.inj H
    go_enter Tryz.func72, Tryz.ntmps72
    go_wp2_with (first | ((with_reducible refine gate_dst (N := 1) rfl ?_); refine box_event ?hg (N := 1) ?hd (cs := #[.int .i64 a0_0, .int .i64 a0_1, .string a0_2, .bool a0_3, .int .i64 a0_4]) (t := 25) ?hr ?_; (case hd => rfl); (case hg => rfl); (case hr => first | (go_simp; done) | (go_simp; rfl)); intro gb390 hg w4 hbox hb; have n0_ := Aside0.mk (below_step (by repeat (first | (with_reducible first | exact HB.out | apply below_alloc | apply pw_below_drewN | apply below_drew1) | exact HB.out)) hb); have n1_ := Aside0.mk (hbox); have n2_ := Aside0.mk ((by rw [hg]; exact (below_size (by repeat (first | (with_reducible first | exact HB.out | apply below_alloc | apply pw_below_drewN | apply below_drew1) | exact HB.out))) : w.heap.size ≤ gb390)); have n3_ := Aside0.mk ((by rw [hg]; exact (below_size (by repeat (first | (with_reducible first | exact HB.out | apply below_alloc | apply pw_below_drewN | apply below_drew1) | exact HB.out))) : w.heap.size ≤ gb390)); clear HB; have HB := n0_; have BK390 := n1_; have GW390 := n2_; have GE390 := n3_; clear n0_ n1_ n2_ n3_; clear hb hbox hg; have hcz5_0 : w4.cell? ⟨gb390, 0, none⟩ = some (.int .i64 a0_0) := (blk_cell BK390.out 0).trans rfl; have hcz5_1 : w4.cell? ⟨gb390, 1, none⟩ = some (.int .i64 a0_1) := (blk_cell BK390.out 1).trans rfl; have hcz5_2 : w4.cell? ⟨gb390, 2, none⟩ = some (.string a0_2) := (blk_cell BK390.out 2).trans rfl; have hcz5_3 : w4.cell? ⟨gb390, 3, none⟩ = some (.bool a0_3) := (blk_cell BK390.out 3).trans rfl; have hcz5_4 : w4.cell? ⟨gb390, 4, none⟩ = some (.int .i64 a0_4) := (blk_cell BK390.out 4).trans rfl; have hfz5_0 := blk_frozen BK390.out 0; have hfz5_1 := blk_frozen BK390.out 1; have hfz5_2 := blk_frozen BK390.out 2; have hfz5_3 := blk_frozen BK390.out 3; have hfz5_4 := blk_frozen BK390.out 4) | ((with_reducible refine gate_callee (f := 17) rfl ?_); refine goesL_ (some 4) rfl rfl Tryz.func17 (by kernel_rfl) rfl #[.agg #[.int .i64 a0_0, .int .i64 a0_1, .string a0_2, .bool a0_3, .int .i64 a0_4]] rfl (by (try simp only [List.map_toArray, List.map_cons, List.map_nil]); first | done | rfl | (simp only [List.length_drop, List.length_take]; rfl) | (simp only [ByteArray.size_append, Int.natCast_add]; done) | (simp only [ByteArray.size_append, Int.natCast_add]; rfl) | (simp only [Array.mk.injEq, List.cons.injEq, Value.int.injEq, true_and, and_true]; (try simp only [mx, mn, wrap64] at *); omega)) ?_; (with_reducible refine (value_Check.calls a0_0 a0_1 a0_2 a0_3 a0_4 t391 _ A2.out).mono ?_); rintro e w6 ⟨rfl, hb⟩; refine ⟨_, rfl, ?_⟩; have n0_ := Aside0.mk (blk_below (g := gb390) (o := .cells #[.int .i64 a0_0, .int .i64 a0_1, .string a0_2, .bool a0_3, .int .i64 a0_4] 25 (0, 0)) (by (with_reducible repeat (first | refine blk_drewN ?_ _ | refine blk_drew ?_ | refine blk_alloc ?_ _)); exact BK390.out) hb); have n1_ := Aside0.mk (below_step (by repeat (first | (with_reducible first | exact HB.out | apply below_alloc | apply pw_below_drewN | apply below_drew1 | refine below_set ?_ GE390.out) | exact HB.out)) hb); clear BK390; clear HB; have BK390 := n0_; have HB := n1_; clear n0_ n1_; (try clear hb); (try clear hb2); (try clear hk); (try clear hi); have hcz7_0 : w6.cell? ⟨gb390, 0, none⟩ = some (.int .i64 a0_0) := (blk_cell BK390.out 0).trans rfl; have hcz7_1 : w6.cell? ⟨gb390, 1, none⟩ = some (.int .i64 a0_1) := (blk_cell BK390.out 1).trans rfl; have hcz7_2 : w6.cell? ⟨gb390, 2, none⟩ = some (.string a0_2) := (blk_cell BK390.out 2).trans rfl; have hcz7_3 : w6.cell? ⟨gb390, 3, none⟩ = some (.bool a0_3) := (blk_cell BK390.out 3).trans rfl; have hcz7_4 : w6.cell? ⟨gb390, 4, none⟩ = some (.int .i64 a0_4) := (blk_cell BK390.out 4).trans rfl; have hfz7_0 := blk_frozen BK390.out 0; have hfz7_1 := blk_frozen BK390.out 1; have hfz7_2 := blk_frozen BK390.out 2; have hfz7_3 := blk_frozen BK390.out 3; have hfz7_4 := blk_frozen BK390.out 4))
    go_ret
    exact ⟨by first | rfl | (simp [errW_none, errW_some] <;> rfl) | (simp [*, errW_none, errW_some] <;> rfl), by repeat (first | (with_reducible first | exact HB.out | apply below_alloc | apply pw_below_drewN | apply below_drew1 | refine below_set ?_ GE390.out) | exact HB.out)⟩
  · rw [if_neg c3] at H
    have c3b0 : (t391 == 0) = false := beq_eq_false_iff_ne.mpr c3
    have c3b1 : (t391 != 0) = true := bne_iff_ne.mpr c3
    obtain rfl := Option.some.inj H
    go_enter Tryz.func72, Tryz.ntmps72
    go_wp2_with (first | ((with_reducible refine gate_dst (N := 1) rfl ?_); refine box_event ?hg (N := 1) ?hd (cs := #[.int .i64 a0_0, .int .i64 a0_1, .string a0_2, .bool a0_3, .int .i64 a0_4]) (t := 25) ?hr ?_; (case hd => rfl); (case hg => rfl); (case hr => first | (go_simp; done) | (go_simp; rfl)); intro gb390 hg w8 hbox hb; have n0_ := Aside0.mk (below_step (by repeat (first | (with_reducible first | exact HB.out | apply below_alloc | apply pw_below_drewN | apply below_drew1) | exact HB.out)) hb); have n1_ := Aside0.mk (hbox); have n2_ := Aside0.mk ((by rw [hg]; exact (below_size (by repeat (first | (with_reducible first | exact HB.out | apply below_alloc | apply pw_below_drewN | apply below_drew1) | exact HB.out))) : w.heap.size ≤ gb390)); have n3_ := Aside0.mk ((by rw [hg]; exact (below_size (by repeat (first | (with_reducible first | exact HB.out | apply below_alloc | apply pw_below_drewN | apply below_drew1) | exact HB.out))) : w.heap.size ≤ gb390)); clear HB; have HB := n0_; have BK390 := n1_; have GW390 := n2_; have GE390 := n3_; clear n0_ n1_ n2_ n3_; clear hb hbox hg; have hcz9_0 : w8.cell? ⟨gb390, 0, none⟩ = some (.int .i64 a0_0) := (blk_cell BK390.out 0).trans rfl; have hcz9_1 : w8.cell? ⟨gb390, 1, none⟩ = some (.int .i64 a0_1) := (blk_cell BK390.out 1).trans rfl; have hcz9_2 : w8.cell? ⟨gb390, 2, none⟩ = some (.string a0_2) := (blk_cell BK390.out 2).trans rfl; have hcz9_3 : w8.cell? ⟨gb390, 3, none⟩ = some (.bool a0_3) := (blk_cell BK390.out 3).trans rfl; have hcz9_4 : w8.cell? ⟨gb390, 4, none⟩ = some (.int .i64 a0_4) := (blk_cell BK390.out 4).trans rfl; have hfz9_0 := blk_frozen BK390.out 0; have hfz9_1 := blk_frozen BK390.out 1; have hfz9_2 := blk_frozen BK390.out 2; have hfz9_3 := blk_frozen BK390.out 3; have hfz9_4 := blk_frozen BK390.out 4) | ((with_reducible refine gate_callee (f := 17) rfl ?_); refine goesL_ (some 4) rfl rfl Tryz.func17 (by kernel_rfl) rfl #[.agg #[.int .i64 a0_0, .int .i64 a0_1, .string a0_2, .bool a0_3, .int .i64 a0_4]] rfl (by (try simp only [List.map_toArray, List.map_cons, List.map_nil]); first | done | rfl | (simp only [List.length_drop, List.length_take]; rfl) | (simp only [ByteArray.size_append, Int.natCast_add]; done) | (simp only [ByteArray.size_append, Int.natCast_add]; rfl) | (simp only [Array.mk.injEq, List.cons.injEq, Value.int.injEq, true_and, and_true]; (try simp only [mx, mn, wrap64] at *); omega)) ?_; (with_reducible refine (value_Check.calls a0_0 a0_1 a0_2 a0_3 a0_4 t391 _ A2.out).mono ?_); rintro e w10 ⟨rfl, hb⟩; refine ⟨_, rfl, ?_⟩; have n0_ := Aside0.mk (blk_below (g := gb390) (o := .cells #[.int .i64 a0_0, .int .i64 a0_1, .string a0_2, .bool a0_3, .int .i64 a0_4] 25 (0, 0)) (by (with_reducible repeat (first | refine blk_drewN ?_ _ | refine blk_drew ?_ | refine blk_alloc ?_ _)); exact BK390.out) hb); have n1_ := Aside0.mk (below_step (by repeat (first | (with_reducible first | exact HB.out | apply below_alloc | apply pw_below_drewN | apply below_drew1 | refine below_set ?_ GE390.out) | exact HB.out)) hb); clear BK390; clear HB; have BK390 := n0_; have HB := n1_; clear n0_ n1_; (try clear hb); (try clear hb2); (try clear hk); (try clear hi)))
    go_ret
    exact ⟨by first | rfl | (simp [errW_none, errW_some] <;> rfl) | (simp [*, errW_none, errW_some] <;> rfl), by repeat (first | (with_reducible first | exact HB.out | apply below_alloc | apply pw_below_drewN | apply below_drew1 | refine below_set ?_ GE390.out) | exact HB.out)⟩
def num_Print.f (a0 : Int) : Option (ByteArray × Int) := (num_Fits.f a0).bind fun t392 => (if t392 = true then ((strconv_Itoa.f (mx a0 (wrap64 (-a0)))).bind fun t393 => ((strings_Repeat.f (⟨#[48]⟩ : ByteArray) (mx 0 (wrap64 (7 - (t393.size : Int))))).bind fun t394 => (if t394.size + t393.size ≤ 9223372036854775807 then (if 0 ≤ (wrap64 (((t394 ++ t393).size : Int) - 6)) then (if (wrap64 (((t394 ++ t393).size : Int) - 6)) ≤ ((t394 ++ t393).size : Int) then ((strings_TrimRight.f ((t394 ++ t393).extract ((wrap64 (((t394 ++ t393).size : Int) - 6)) : Int).toNat (t394 ++ t393).size) (⟨#[48]⟩ : ByteArray)).bind fun t395 => (if t395.toList = ([] : List UInt8) then (if a0 < 0 then (if 1 + ((t394 ++ t393).extract 0 ((wrap64 (((t394 ++ t393).size : Int) - 6)) : Int).toNat).size ≤ 9223372036854775807 then (some ((⟨#[45]⟩ : ByteArray) ++ ((t394 ++ t393).extract 0 ((wrap64 (((t394 ++ t393).size : Int) - 6)) : Int).toNat), 0)) else (none)) else (some ((t394 ++ t393).extract 0 ((wrap64 (((t394 ++ t393).size : Int) - 6)) : Int).toNat, 0))) else (if 1 + t395.size ≤ 9223372036854775807 then (if ((t394 ++ t393).extract 0 ((wrap64 (((t394 ++ t393).size : Int) - 6)) : Int).toNat).size + ((⟨#[46]⟩ : ByteArray) ++ t395).size ≤ 9223372036854775807 then (if a0 < 0 then (if 1 + (((t394 ++ t393).extract 0 ((wrap64 (((t394 ++ t393).size : Int) - 6)) : Int).toNat) ++ ((⟨#[46]⟩ : ByteArray) ++ t395)).size ≤ 9223372036854775807 then (some ((⟨#[45]⟩ : ByteArray) ++ (((t394 ++ t393).extract 0 ((wrap64 (((t394 ++ t393).size : Int) - 6)) : Int).toNat) ++ ((⟨#[46]⟩ : ByteArray) ++ t395)), 0)) else (none)) else (some (((t394 ++ t393).extract 0 ((wrap64 (((t394 ++ t393).size : Int) - 6)) : Int).toNat) ++ ((⟨#[46]⟩ : ByteArray) ++ t395), 0))) else (none)) else (none)))) else (none)) else (none)) else (none)))) else (some ((⟨#[]⟩ : ByteArray), 2)))
def num_Print.T5 : Bool × List (List Nat × List Nat) := (true, [([], []), ([], []), ([1], [1]), ([2], [2]), ([0, 3], [0, 3]), ([], []), ([], []), ([6], [6]), ([7], [7]), ([5, 8], [5, 8]), ([9], [9]), ([4, 10, 0, 1, 2, 3, 4], [4]), ([10, 11, 0, 1, 2, 3, 4, 5, 6, 7, 8, 9, 10, 11], [10])])
def num_Print.B5 : List Nat := [0, 0, 2, 6, 15, 0, 0, 64, 192, 480, 992, 2047, 4095]
theorem num_Print.tab5 : rtab .any (opsOf Tryz.f73 5) = num_Print.T5 := by kernel_rfl
theorem num_Print.bits5 : waitsOk num_Print.T5.2 num_Print.B5 = true := by kernel_rfl
set_option maxHeartbeats 8000000 in
set_option maxRecDepth 100000 in
theorem num_Print.calls (a0 : Int) (r1 : ByteArray) (r2 : Int) (w : World) (h : num_Print.f a0 = some (r1, r2)) (hL0 : Aside0 (LaidW w)) :
    Calls Tryz.prog 73 #[.int .i64 a0] w fun e w' => e = .returned (.tuple #[.string r1, .int .i64 r2]) ∧ Below w.heap.size w w' := by
  have HB := Aside0.mk (Below.refl w.heap.size w)
  have H : ((num_Fits.f a0).bind fun t392 => (if t392 = true then ((strconv_Itoa.f (mx a0 (wrap64 (-a0)))).bind fun t393 => ((strings_Repeat.f (⟨#[48]⟩ : ByteArray) (mx 0 (wrap64 (7 - (t393.size : Int))))).bind fun t394 => (if t394.size + t393.size ≤ 9223372036854775807 then (if 0 ≤ (wrap64 (((t394 ++ t393).size : Int) - 6)) then (if (wrap64 (((t394 ++ t393).size : Int) - 6)) ≤ ((t394 ++ t393).size : Int) then ((strings_TrimRight.f ((t394 ++ t393).extract ((wrap64 (((t394 ++ t393).size : Int) - 6)) : Int).toNat (t394 ++ t393).size) (⟨#[48]⟩ : ByteArray)).bind fun t395 => (if t395.toList = ([] : List UInt8) then (if a0 < 0 then (if 1 + ((t394 ++ t393).extract 0 ((wrap64 (((t394 ++ t393).size : Int) - 6)) : Int).toNat).size ≤ 9223372036854775807 then (some ((⟨#[45]⟩ : ByteArray) ++ ((t394 ++ t393).extract 0 ((wrap64 (((t394 ++ t393).size : Int) - 6)) : Int).toNat), 0)) else (none)) else (some ((t394 ++ t393).extract 0 ((wrap64 (((t394 ++ t393).size : Int) - 6)) : Int).toNat, 0))) else (if 1 + t395.size ≤ 9223372036854775807 then (if ((t394 ++ t393).extract 0 ((wrap64 (((t394 ++ t393).size : Int) - 6)) : Int).toNat).size + ((⟨#[46]⟩ : ByteArray) ++ t395).size ≤ 9223372036854775807 then (if a0 < 0 then (if 1 + (((t394 ++ t393).extract 0 ((wrap64 (((t394 ++ t393).size : Int) - 6)) : Int).toNat) ++ ((⟨#[46]⟩ : ByteArray) ++ t395)).size ≤ 9223372036854775807 then (some ((⟨#[45]⟩ : ByteArray) ++ (((t394 ++ t393).extract 0 ((wrap64 (((t394 ++ t393).size : Int) - 6)) : Int).toNat) ++ ((⟨#[46]⟩ : ByteArray) ++ t395)), 0)) else (none)) else (some (((t394 ++ t393).extract 0 ((wrap64 (((t394 ++ t393).size : Int) - 6)) : Int).toNat) ++ ((⟨#[46]⟩ : ByteArray) ++ t395), 0))) else (none)) else (none)))) else (none)) else (none)) else (none)))) else (some ((⟨#[]⟩ : ByteArray), 2)))) = some (r1, r2) := h
  clear h
  replace H := Option.bind_eq_some_iff.mp H
  obtain ⟨t392, A20, H⟩ := H
  replace H : (if t392 = true then ((strconv_Itoa.f (mx a0 (wrap64 (-a0)))).bind fun t393 => ((strings_Repeat.f (⟨#[48]⟩ : ByteArray) (mx 0 (wrap64 (7 - (t393.size : Int))))).bind fun t394 => (if t394.size + t393.size ≤ 9223372036854775807 then (if 0 ≤ (wrap64 (((t394 ++ t393).size : Int) - 6)) then (if (wrap64 (((t394 ++ t393).size : Int) - 6)) ≤ ((t394 ++ t393).size : Int) then ((strings_TrimRight.f ((t394 ++ t393).extract ((wrap64 (((t394 ++ t393).size : Int) - 6)) : Int).toNat (t394 ++ t393).size) (⟨#[48]⟩ : ByteArray)).bind fun t395 => (if t395.toList = ([] : List UInt8) then (if a0 < 0 then (if 1 + ((t394 ++ t393).extract 0 ((wrap64 (((t394 ++ t393).size : Int) - 6)) : Int).toNat).size ≤ 9223372036854775807 then (some ((⟨#[45]⟩ : ByteArray) ++ ((t394 ++ t393).extract 0 ((wrap64 (((t394 ++ t393).size : Int) - 6)) : Int).toNat), 0)) else (none)) else (some ((t394 ++ t393).extract 0 ((wrap64 (((t394 ++ t393).size : Int) - 6)) : Int).toNat, 0))) else (if 1 + t395.size ≤ 9223372036854775807 then (if ((t394 ++ t393).extract 0 ((wrap64 (((t394 ++ t393).size : Int) - 6)) : Int).toNat).size + ((⟨#[46]⟩ : ByteArray) ++ t395).size ≤ 9223372036854775807 then (if a0 < 0 then (if 1 + (((t394 ++ t393).extract 0 ((wrap64 (((t394 ++ t393).size : Int) - 6)) : Int).toNat) ++ ((⟨#[46]⟩ : ByteArray) ++ t395)).size ≤ 9223372036854775807 then (some ((⟨#[45]⟩ : ByteArray) ++ (((t394 ++ t393).extract 0 ((wrap64 (((t394 ++ t393).size : Int) - 6)) : Int).toNat) ++ ((⟨#[46]⟩ : ByteArray) ++ t395)), 0)) else (none)) else (some (((t394 ++ t393).extract 0 ((wrap64 (((t394 ++ t393).size : Int) - 6)) : Int).toNat) ++ ((⟨#[46]⟩ : ByteArray) ++ t395), 0))) else (none)) else (none)))) else (none)) else (none)) else (none)))) else (some ((⟨#[]⟩ : ByteArray), 2))) = some (r1, r2) := H
  have A2 := Aside0.mk A20
  clear A20
  by_cases c3 : t392 = true
  · subst c3
    have H1 : ((strconv_Itoa.f (mx a0 (wrap64 (-a0)))).bind fun t393 => ((strings_Repeat.f (⟨#[48]⟩ : ByteArray) (mx 0 (wrap64 (7 - (t393.size : Int))))).bind fun t394 => (if t394.size + t393.size ≤ 9223372036854775807 then (if 0 ≤ (wrap64 (((t394 ++ t393).size : Int) - 6)) then (if (wrap64 (((t394 ++ t393).size : Int) - 6)) ≤ ((t394 ++ t393).size : Int) then ((strings_TrimRight.f ((t394 ++ t393).extract ((wrap64 (((t394 ++ t393).size : Int) - 6)) : Int).toNat (t394 ++ t393).size) (⟨#[48]⟩ : ByteArray)).bind fun t395 => (if t395.toList = ([] : List UInt8) then (if a0 < 0 then (if 1 + ((t394 ++ t393).extract 0 ((wrap64 (((t394 ++ t393).size : Int) - 6)) : Int).toNat).size ≤ 9223372036854775807 then (some ((⟨#[45]⟩ : ByteArray) ++ ((t394 ++ t393).extract 0 ((wrap64 (((t394 ++ t393).size : Int) - 6)) : Int).toNat), 0)) else (none)) else (some ((t394 ++ t393).extract 0 ((wrap64 (((t394 ++ t393).size : Int) - 6)) : Int).toNat, 0))) else (if 1 + t395.size ≤ 9223372036854775807 then (if ((t394 ++ t393).extract 0 ((wrap64 (((t394 ++ t393).size : Int) - 6)) : Int).toNat).size + ((⟨#[46]⟩ : ByteArray) ++ t395).size ≤ 9223372036854775807 then (if a0 < 0 then (if 1 + (((t394 ++ t393).extract 0 ((wrap64 (((t394 ++ t393).size : Int) - 6)) : Int).toNat) ++ ((⟨#[46]⟩ : ByteArray) ++ t395)).size ≤ 9223372036854775807 then (some ((⟨#[45]⟩ : ByteArray) ++ (((t394 ++ t393).extract 0 ((wrap64 (((t394 ++ t393).size : Int) - 6)) : Int).toNat) ++ ((⟨#[46]⟩ : ByteArray) ++ t395)), 0)) else (none)) else (some (((t394 ++ t393).extract 0 ((wrap64 (((t394 ++ t393).size : Int) - 6)) : Int).toNat) ++ ((⟨#[46]⟩ : ByteArray) ++ t395), 0))) else (none)) else (none)))) else (none)) else (none)) else (none)))) = some (r1, r2) := by rw [if_pos rfl] at H; exact H
    clear H
    have H := H1
    clear H1
    obtain ⟨ji4, hji4⟩ : ∃ j_ : Int, (mx a0 (wrap64 (-a0))) = j_ := ⟨_, rfl⟩
    replace H : ((strconv_Itoa.f (ji4)).bind fun t393 => ((strings_Repeat.f (⟨#[48]⟩ : ByteArray) (mx 0 (wrap64 (7 - (t393.size : Int))))).bind fun t394 => (if t394.size + t393.size ≤ 9223372036854775807 then (if 0 ≤ (wrap64 (((t394 ++ t393).size : Int) - 6)) then (if (wrap64 (((t394 ++ t393).size : Int) - 6)) ≤ ((t394 ++ t393).size : Int) then ((strings_TrimRight.f ((t394 ++ t393).extract ((wrap64 (((t394 ++ t393).size : Int) - 6)) : Int).toNat (t394 ++ t393).size) (⟨#[48]⟩ : ByteArray)).bind fun t395 => (if t395.toList = ([] : List UInt8) then (if a0 < 0 then (if 1 + ((t394 ++ t393).extract 0 ((wrap64 (((t394 ++ t393).size : Int) - 6)) : Int).toNat).size ≤ 9223372036854775807 then (some ((⟨#[45]⟩ : ByteArray) ++ ((t394 ++ t393).extract 0 ((wrap64 (((t394 ++ t393).size : Int) - 6)) : Int).toNat), 0)) else (none)) else (some ((t394 ++ t393).extract 0 ((wrap64 (((t394 ++ t393).size : Int) - 6)) : Int).toNat, 0))) else (if 1 + t395.size ≤ 9223372036854775807 then (if ((t394 ++ t393).extract 0 ((wrap64 (((t394 ++ t393).size : Int) - 6)) : Int).toNat).size + ((⟨#[46]⟩ : ByteArray) ++ t395).size ≤ 9223372036854775807 then (if a0 < 0 then (if 1 + (((t394 ++ t393).extract 0 ((wrap64 (((t394 ++ t393).size : Int) - 6)) : Int).toNat) ++ ((⟨#[46]⟩ : ByteArray) ++ t395)).size ≤ 9223372036854775807 then (some ((⟨#[45]⟩ : ByteArray) ++ (((t394 ++ t393).extract 0 ((wrap64 (((t394 ++ t393).size : Int) - 6)) : Int).toNat) ++ ((⟨#[46]⟩ : ByteArray) ++ t395)), 0)) else (none)) else (some (((t394 ++ t393).extract 0 ((wrap64 (((t394 ++ t393).size : Int) - 6)) : Int).toNat) ++ ((⟨#[46]⟩ : ByteArray) ++ t395), 0))) else (none)) else (none)))) else (none)) else (none)) else (none)))) = some (r1, r2) := by first | (rw [hji4] at H; exact H) | (simp only [hji4] at H ⊢; exact H)
    (try rw [hji4] at A2)
    have hji4_ : (if a0 < (wrap64 (-a0)) then (wrap64 (-a0)) else a0) = ji4 := hji4
    replace H := Option.bind_eq_some_iff.mp H
    obtain ⟨t393, A50, H⟩ := H
    replace H : ((strings_Repeat.f (⟨#[48]⟩ : ByteArray) (mx 0 (wrap64 (7 - (t393.size : Int))))).bind fun t394 => (if t394.size + t393.size ≤ 9223372036854775807 then (if 0 ≤ (wrap64 (((t394 ++ t393).size : Int) - 6)) then (if (wrap64 (((t394 ++ t393).size : Int) - 6)) ≤ ((t394 ++ t393).size : Int) then ((strings_TrimRight.f ((t394 ++ t393).extract ((wrap64 (((t394 ++ t393).size : Int) - 6)) : Int).toNat (t394 ++ t393).size) (⟨#[48]⟩ : ByteArray)).bind fun t395 => (if t395.toList = ([] : List UInt8) then (if a0 < 0 then (if 1 + ((t394 ++ t393).extract 0 ((wrap64 (((t394 ++ t393).size : Int) - 6)) : Int).toNat).size ≤ 9223372036854775807 then (some ((⟨#[45]⟩ : ByteArray) ++ ((t394 ++ t393).extract 0 ((wrap64 (((t394 ++ t393).size : Int) - 6)) : Int).toNat), 0)) else (none)) else (some ((t394 ++ t393).extract 0 ((wrap64 (((t394 ++ t393).size : Int) - 6)) : Int).toNat, 0))) else (if 1 + t395.size ≤ 9223372036854775807 then (if ((t394 ++ t393).extract 0 ((wrap64 (((t394 ++ t393).size : Int) - 6)) : Int).toNat).size + ((⟨#[46]⟩ : ByteArray) ++ t395).size ≤ 9223372036854775807 then (if a0 < 0 then (if 1 + (((t394 ++ t393).extract 0 ((wrap64 (((t394 ++ t393).size : Int) - 6)) : Int).toNat) ++ ((⟨#[46]⟩ : ByteArray) ++ t395)).size ≤ 9223372036854775807 then (some ((⟨#[45]⟩ : ByteArray) ++ (((t394 ++ t393).extract 0 ((wrap64 (((t394 ++ t393).size : Int) - 6)) : Int).toNat) ++ ((⟨#[46]⟩ : ByteArray) ++ t395)), 0)) else (none)) else (some (((t394 ++ t393).extract 0 ((wrap64 (((t394 ++ t393).size : Int) - 6)) : Int).toNat) ++ ((⟨#[46]⟩ : ByteArray) ++ t395), 0))) else (none)) else (none)))) else (none)) else (none)) else (none))) = some (r1, r2) := H
    have A5 := Aside0.mk A50
    clear A50
    obtain ⟨ji6, hji6⟩ : ∃ j_ : Int, (mx 0 (wrap64 (7 - (t393.size : Int)))) = j_ := ⟨_, rfl⟩
    replace H : ((strings_Repeat.f (⟨#[48]⟩ : ByteArray) (ji6)).bind fun t394 => (if t394.size + t393.size ≤ 9223372036854775807 then (if 0 ≤ (wrap64 (((t394 ++ t393).size : Int) - 6)) then (if (wrap64 (((t394 ++ t393).size : Int) - 6)) ≤ ((t394 ++ t393).size : Int) then ((strings_TrimRight.f ((t394 ++ t393).extract ((wrap64 (((t394 ++ t393).size : Int) - 6)) : Int).toNat (t394 ++ t393).size) (⟨#[48]⟩ : ByteArray)).bind fun t395 => (if t395.toList = ([] : List UInt8) then (if a0 < 0 then (if 1 + ((t394 ++ t393).extract 0 ((wrap64 (((t394 ++ t393).size : Int) - 6)) : Int).toNat).size ≤ 9223372036854775807 then (some ((⟨#[45]⟩ : ByteArray) ++ ((t394 ++ t393).extract 0 ((wrap64 (((t394 ++ t393).size : Int) - 6)) : Int).toNat), 0)) else (none)) else (some ((t394 ++ t393).extract 0 ((wrap64 (((t394 ++ t393).size : Int) - 6)) : Int).toNat, 0))) else (if 1 + t395.size ≤ 9223372036854775807 then (if ((t394 ++ t393).extract 0 ((wrap64 (((t394 ++ t393).size : Int) - 6)) : Int).toNat).size + ((⟨#[46]⟩ : ByteArray) ++ t395).size ≤ 9223372036854775807 then (if a0 < 0 then (if 1 + (((t394 ++ t393).extract 0 ((wrap64 (((t394 ++ t393).size : Int) - 6)) : Int).toNat) ++ ((⟨#[46]⟩ : ByteArray) ++ t395)).size ≤ 9223372036854775807 then (some ((⟨#[45]⟩ : ByteArray) ++ (((t394 ++ t393).extract 0 ((wrap64 (((t394 ++ t393).size : Int) - 6)) : Int).toNat) ++ ((⟨#[46]⟩ : ByteArray) ++ t395)), 0)) else (none)) else (some (((t394 ++ t393).extract 0 ((wrap64 (((t394 ++ t393).size : Int) - 6)) : Int).toNat) ++ ((⟨#[46]⟩ : ByteArray) ++ t395), 0))) else (none)) else (none)))) else (none)) else (none)) else (none))) = some (r1, r2) := by first | (rw [hji6] at H; exact H) | (simp only [hji6] at H ⊢; exact H)
    (try rw [hji6] at A2)
    (try rw [hji6] at A5)
    (try (have hji6l : 0 ≤ ji6 := by (rw [← hji6]; unfold mx; (repeat' split) <;> omega)))
    (try (have hji6m : 0 ≤ ji6 := by omega))
    have hji6_ : (if 0 < (wrap64 (7 - (t393.size : Int))) then (wrap64 (7 - (t393.size : Int))) else 0) = ji6 := hji6
    replace H := Option.bind_eq_some_iff.mp H
    obtain ⟨t394, A70, H⟩ := H
    replace H : (if t394.size + t393.size ≤ 9223372036854775807 then (if 0 ≤ (wrap64 (((t394 ++ t393).size : Int) - 6)) then (if (wrap64 (((t394 ++ t393).size : Int) - 6)) ≤ ((t394 ++ t393).size : Int) then ((strings_TrimRight.f ((t394 ++ t393).extract ((wrap64 (((t394 ++ t393).size : Int) - 6)) : Int).toNat (t394 ++ t393).size) (⟨#[48]⟩ : ByteArray)).bind fun t395 => (if t395.toList = ([] : List UInt8) then (if a0 < 0 then (if 1 + ((t394 ++ t393).extract 0 ((wrap64 (((t394 ++ t393).size : Int) - 6)) : Int).toNat).size ≤ 9223372036854775807 then (some ((⟨#[45]⟩ : ByteArray) ++ ((t394 ++ t393).extract 0 ((wrap64 (((t394 ++ t393).size : Int) - 6)) : Int).toNat), 0)) else (none)) else (some ((t394 ++ t393).extract 0 ((wrap64 (((t394 ++ t393).size : Int) - 6)) : Int).toNat, 0))) else (if 1 + t395.size ≤ 9223372036854775807 then (if ((t394 ++ t393).extract 0 ((wrap64 (((t394 ++ t393).size : Int) - 6)) : Int).toNat).size + ((⟨#[46]⟩ : ByteArray) ++ t395).size ≤ 9223372036854775807 then (if a0 < 0 then (if 1 + (((t394 ++ t393).extract 0 ((wrap64 (((t394 ++ t393).size : Int) - 6)) : Int).toNat) ++ ((⟨#[46]⟩ : ByteArray) ++ t395)).size ≤ 9223372036854775807 then (some ((⟨#[45]⟩ : ByteArray) ++ (((t394 ++ t393).extract 0 ((wrap64 (((t394 ++ t393).size : Int) - 6)) : Int).toNat) ++ ((⟨#[46]⟩ : ByteArray) ++ t395)), 0)) else (none)) else (some (((t394 ++ t393).extract 0 ((wrap64 (((t394 ++ t393).size : Int) - 6)) : Int).toNat) ++ ((⟨#[46]⟩ : ByteArray) ++ t395), 0))) else (none)) else (none)))) else (none)) else (none)) else (none)) = some (r1, r2) := H
    have A7 := Aside0.mk A70
    clear A70
    by_cases c8 : t394.size + t393.size ≤ 9223372036854775807
    · rw [if_pos c8] at H
      have c8b0 := eq_true c8
      have c8b1 : decide (t394.size + t393.size ≤ 9223372036854775807) = true := decide_eq_true c8
      try have c8b2 : (9223372036854775807 < t394.size + t393.size) = False := eq_false (Nat.not_lt.2 c8)
      obtain ⟨ji9, hji9⟩ : ∃ j_ : Int, (wrap64 (((t394 ++ t393).size : Int) - 6)) = j_ := ⟨_, rfl⟩
      replace H : (if 0 ≤ (ji9) then (if (ji9) ≤ ((t394 ++ t393).size : Int) then ((strings_TrimRight.f ((t394 ++ t393).extract ((ji9) : Int).toNat (t394 ++ t393).size) (⟨#[48]⟩ : ByteArray)).bind fun t395 => (if t395.toList = ([] : List UInt8) then (if a0 < 0 then (if 1 + ((t394 ++ t393).extract 0 ((ji9) : Int).toNat).size ≤ 9223372036854775807 then (some ((⟨#[45]⟩ : ByteArray) ++ ((t394 ++ t393).extract 0 ((ji9) : Int).toNat), 0)) else (none)) else (some ((t394 ++ t393).extract 0 ((ji9) : Int).toNat, 0))) else (if 1 + t395.size ≤ 9223372036854775807 then (if ((t394 ++ t393).extract 0 ((ji9) : Int).toNat).size + ((⟨#[46]⟩ : ByteArray) ++ t395).size ≤ 9223372036854775807 then (if a0 < 0 then (if 1 + (((t394 ++ t393).extract 0 ((ji9) : Int).toNat) ++ ((⟨#[46]⟩ : ByteArray) ++ t395)).size ≤ 9223372036854775807 then (some ((⟨#[45]⟩ : ByteArray) ++ (((t394 ++ t393).extract 0 ((ji9) : Int).toNat) ++ ((⟨#[46]⟩ : ByteArray) ++ t395)), 0)) else (none)) else (some (((t394 ++ t393).extract 0 ((ji9) : Int).toNat) ++ ((⟨#[46]⟩ : ByteArray) ++ t395), 0))) else (none)) else (none)))) else (none)) else (none)) = some (r1, r2) := by first | (rw [hji9] at H; exact H) | (simp only [hji9] at H ⊢; exact H)
      (try rw [hji9] at A2)
      (try rw [hji9] at A5)
      (try rw [hji9] at A7)
      have hji9w : (IntKind.i64.wrap (((t394 ++ t393).size : Int) - 6)) = ji9 := (i64_w _).trans hji9
      by_cases c10 : 0 ≤ (ji9)
      · rw [if_pos c10] at H
        have c10b0 := eq_true c10
        have c10b1 : decide (0 ≤ (ji9)) = true := decide_eq_true c10
        clear c10
        by_cases c11 : (ji9) ≤ ((t394 ++ t393).size : Int)
        · rw [if_pos c11] at H
          have c11b0 := eq_true c11
          have c11b1 : decide ((ji9) ≤ ((t394 ++ t393).size : Int)) = true := decide_eq_true c11
          have c12b0 := eq_true (of_decide_eq_true (by first | (with_reducible assumption) | assumption) : 0 ≤ (ji9))
          have c13b0 := eq_true (of_decide_eq_true (by first | (with_reducible assumption) | assumption) : (ji9) ≤ ((t394 ++ t393).size : Int))
          replace H := Option.bind_eq_some_iff.mp H
          obtain ⟨t395, A140, H⟩ := H
          replace H : (if t395.toList = ([] : List UInt8) then (if a0 < 0 then (if 1 + ((t394 ++ t393).extract 0 ((ji9) : Int).toNat).size ≤ 9223372036854775807 then (some ((⟨#[45]⟩ : ByteArray) ++ ((t394 ++ t393).extract 0 ((ji9) : Int).toNat), 0)) else (none)) else (some ((t394 ++ t393).extract 0 ((ji9) : Int).toNat, 0))) else (if 1 + t395.size ≤ 9223372036854775807 then (if ((t394 ++ t393).extract 0 ((ji9) : Int).toNat).size + ((⟨#[46]⟩ : ByteArray) ++ t395).size ≤ 9223372036854775807 then (if a0 < 0 then (if 1 + (((t394 ++ t393).extract 0 ((ji9) : Int).toNat) ++ ((⟨#[46]⟩ : ByteArray) ++ t395)).size ≤ 9223372036854775807 then (some ((⟨#[45]⟩ : ByteArray) ++ (((t394 ++ t393).extract 0 ((ji9) : Int).toNat) ++ ((⟨#[46]⟩ : ByteArray) ++ t395)), 0)) else (none)) else (some (((t394 ++ t393).extract 0 ((ji9) : Int).toNat) ++ ((⟨#[46]⟩ : ByteArray) ++ t395), 0))) else (none)) else (none))) = some (r1, r2) := H
          have A14 := Aside0.mk A140
          clear A140
          by_cases c15 : t395.toList = ([] : List UInt8)
          · rw [if_pos c15] at H
            have c15b0 : (t395.toList == ([] : List UInt8)) = true := beq_iff_eq.mpr c15
            have c15b1 : (t395.toList != ([] : List UInt8)) = false := bne_eq_false_iff_eq.mpr c15
            clear c15
            by_cases c16 : a0 < 0
            · rw [if_pos c16] at H
              have c16b0 : decide (a0 < 0) = true := decide_eq_true c16
              clear c16
              by_cases c17 : 1 + ((t394 ++ t393).extract 0 ((ji9) : Int).toNat).size ≤ 9223372036854775807
              · rw [if_pos c17] at H
                have c17b0 := eq_true c17
                have c17b1 : decide (1 + ((t394 ++ t393).extract 0 ((ji9) : Int).toNat).size ≤ 9223372036854775807) = true := decide_eq_true c17
                try have c17b2 : (9223372036854775807 < 1 + ((t394 ++ t393).extract 0 ((ji9) : Int).toNat).size) = False := eq_false (Nat.not_lt.2 c17)
                simp only [Option.some.injEq, Prod.mk.injEq] at H
                obtain ⟨rfl, rfl⟩ := H
                (try (have hji4u_ : (if a0 < ((-a0)) then ((-a0)) else a0) = ji4 := by (have e_ := hji4_; simp only [wrap64] at e_; omega)))
                (try (have hji4v_ := hji4u_; simp at hji4v_))
                (try (have hji6u_ : (if 0 < ((7 - (t393.size : Int))) then ((7 - (t393.size : Int))) else 0) = ji6 := by (have e_ := hji6_; simp only [wrap64] at e_; omega)))
                (try (have hji6v_ := hji6u_; simp at hji6v_))
                (try (have hji9n_ := hji9; simp only [ByteArray.size_append, Int.natCast_add] at hji9n_))
                (try (have hji9m_ := hji9; rw [ByteArray.size_extract, Nat.min_eq_left (by omega), Nat.sub_zero] at hji9m_))
                (try (have hji9j_ := hji9; simp only [ByteArray.size_append, ByteArray.size_extract, show ∀ z : UInt8, (⟨#[z]⟩ : ByteArray).size = 1 from fun _ => rfl] at hji9j_; (repeat rw [Nat.min_eq_left (by omega)] at hji9j_); (try simp only [Nat.sub_zero] at hji9j_); have hji9f_ := eq_false (Nat.not_lt.2 hji9j_)))
                (try (have hji9k_ := hji9; simp only [ByteArray.size_append, ByteArray.size_extract, show ∀ z : UInt8, (⟨#[z]⟩ : ByteArray).size = 1 from fun _ => rfl] at hji9k_; (repeat rw [Nat.min_eq_left (by omega)] at hji9k_); (try simp only [Nat.sub_zero] at hji9k_); (try simp at hji9k_)))
                (try (have c11b1n_ := of_decide_eq_true c11b1; simp only [ByteArray.size_append, Int.natCast_add] at c11b1n_))
                (try (have c11b1m_ := of_decide_eq_true c11b1; rw [ByteArray.size_extract, Nat.min_eq_left (by omega), Nat.sub_zero] at c11b1m_))
                (try (have c11b1j_ := of_decide_eq_true c11b1; simp only [ByteArray.size_append, ByteArray.size_extract, show ∀ z : UInt8, (⟨#[z]⟩ : ByteArray).size = 1 from fun _ => rfl] at c11b1j_; (repeat rw [Nat.min_eq_left (by omega)] at c11b1j_); (try simp only [Nat.sub_zero] at c11b1j_); have c11b1f_ := eq_false (Nat.not_lt.2 c11b1j_)))
                (try (have c11b1k_ := of_decide_eq_true c11b1; simp only [ByteArray.size_append, ByteArray.size_extract, show ∀ z : UInt8, (⟨#[z]⟩ : ByteArray).size = 1 from fun _ => rfl] at c11b1k_; (repeat rw [Nat.min_eq_left (by omega)] at c11b1k_); (try simp only [Nat.sub_zero] at c11b1k_); (try simp at c11b1k_)))
                (try (have c17b1n_ := of_decide_eq_true c17b1; simp only [ByteArray.size_append, Int.natCast_add] at c17b1n_))
                (try (have c17b1m_ := of_decide_eq_true c17b1; rw [ByteArray.size_extract, Nat.min_eq_left (by omega), Nat.sub_zero] at c17b1m_))
                (try (have c17b1j_ := of_decide_eq_true c17b1; simp only [ByteArray.size_append, ByteArray.size_extract, show ∀ z : UInt8, (⟨#[z]⟩ : ByteArray).size = 1 from fun _ => rfl] at c17b1j_; (repeat rw [Nat.min_eq_left (by omega)] at c17b1j_); (try simp only [Nat.sub_zero] at c17b1j_); have c17b1f_ := eq_false (Nat.not_lt.2 c17b1j_)))
                (try (have c17b1k_ := of_decide_eq_true c17b1; simp only [ByteArray.size_append, ByteArray.size_extract, show ∀ z : UInt8, (⟨#[z]⟩ : ByteArray).size = 1 from fun _ => rfl] at c17b1k_; (repeat rw [Nat.min_eq_left (by omega)] at c17b1k_); (try simp only [Nat.sub_zero] at c17b1k_); (try simp at c17b1k_)))
                go_enter Tryz.func73, Tryz.ntmps73
                try go_wp2_with (first | ((with_reducible refine gate_callee (f := 38) rfl ?_); refine goesL_ (some 8) rfl rfl Tryz.func38 (by kernel_rfl) rfl #[.int .i64 a0] rfl (by (try simp only [List.map_toArray, List.map_cons, List.map_nil]); first | done | rfl | (simp only [List.length_drop, List.length_take]; rfl) | (simp only [ByteArray.size_append, Int.natCast_add]; done) | (simp only [ByteArray.size_append, Int.natCast_add]; rfl) | (simp only [Array.mk.injEq, List.cons.injEq, Value.int.injEq, true_and, and_true]; (try simp only [mx, mn, wrap64] at *); omega)) ?_; (with_reducible refine (num_Fits.calls a0 true _ A2.out).mono ?_); rintro e w' ⟨rfl, ⟨nd, rfl⟩⟩; refine ⟨_, rfl, ?_⟩) | ((with_reducible refine gate_callee (f := 84) rfl ?_); refine goesL_ (some 14) rfl rfl Tryz.func84 (by kernel_rfl) rfl #[.int .i64 ji4] rfl (by (try simp only [List.map_toArray, List.map_cons, List.map_nil]); first | done | (simp only [hji4]; rfl) | rfl | (simp only [List.length_drop, List.length_take]; rfl) | (simp only [ByteArray.size_append, Int.natCast_add]; done) | (simp only [ByteArray.size_append, Int.natCast_add]; rfl) | (simp only [Array.mk.injEq, List.cons.injEq, Value.int.injEq, true_and, and_true]; (try simp only [mx, mn, wrap64] at *); omega)) ?_; (with_reducible refine (strconv_Itoa.calls ji4 t393 _ A5.out (LaidAt hL0 (by repeat (first | (with_reducible first | exact HB.out | apply below_alloc | apply pw_below_drewN | apply below_drew1) | exact HB.out)))).mono ?_); rintro e w18 ⟨rfl, hb⟩; refine ⟨_, rfl, ?_⟩; have n0_ := Aside0.mk (below_step (by repeat (first | (with_reducible first | exact HB.out | apply below_alloc | apply pw_below_drewN | apply below_drew1) | exact HB.out)) hb); clear HB; have HB := n0_; clear n0_; (try clear hb); (try clear hb2); (try clear hk); (try clear hi)) | ((with_reducible refine gate_callee (f := 85) rfl ?_); refine goesL_ (some 19) rfl rfl Tryz.func85 (by kernel_rfl) rfl #[.string (⟨#[48]⟩ : ByteArray), .int .i64 ji6] rfl (by (try simp only [List.map_toArray, List.map_cons, List.map_nil]); first | done | (simp only [hji6]; rfl) | rfl | (simp only [List.length_drop, List.length_take]; rfl) | (simp only [ByteArray.size_append, Int.natCast_add]; done) | (simp only [ByteArray.size_append, Int.natCast_add]; rfl) | (simp only [Array.mk.injEq, List.cons.injEq, Value.int.injEq, true_and, and_true]; (try simp only [mx, mn, wrap64] at *); omega)) ?_; (with_reducible refine (strings_Repeat.calls (⟨#[48]⟩ : ByteArray) ji6 t394 _ A7.out).mono ?_); rintro e w19 ⟨rfl, hb⟩; refine ⟨_, rfl, ?_⟩; have n0_ := Aside0.mk (below_step (by repeat (first | (with_reducible first | exact HB.out | apply below_alloc | apply pw_below_drewN | apply below_drew1) | exact HB.out)) hb); clear HB; have HB := n0_; clear n0_; (try clear hb); (try clear hb2); (try clear hk); (try clear hi)))
                have n0_ := Aside0.mk (below_drew1 HB.out)
                clear HB
                have HB := n0_
                clear n0_
                refine start_ (n := 13) (S := fun w' => True) (ds := []) #[false, false, false, false, false, false, false, false, false, false, false, false, false] (by kernel_rfl) rfl rfl trivial (fun hHeld => ?_); refine with_tabW num_Print.tab5 num_Print.bits5 (fun HT_ HW_ => ?_)
                generalize w19.drew = w20 at HB hHeld ⊢
                refine pure_ (i := 0) (N := some 22) (v := ?_) (a' := ?_) #[true, false, false, false, false, false, false, false, false, false, false, false, false] rfl rfl (any_of HT_.out (by kernel_rfl)) (fun _ _ _ h => h) (Or.inl ⟨by rfl, ?_⟩) ?_ ?_
                rotate_left
                · intro w'
                  go_simp
                  with_reducible rfl
                rotate_left
                · simp only [Act.put, List.setIfInBounds_toArray, List.set_cons_zero, List.set_cons_succ, i64_w, i32_w]
                  rfl
                refine pure_ (i := 1) (N := some 23) (v := ?_) (a' := ?_) #[true, true, false, false, false, false, false, false, false, false, false, false, false] rfl rfl (any_of HT_.out (by kernel_rfl)) (fun _ _ _ h => h) (Or.inl ⟨by rfl, ?_⟩) ?_ ?_
                rotate_left
                · intro w'
                  go_simp
                  with_reducible rfl
                rotate_left
                · simp only [Act.put, List.setIfInBounds_toArray, List.set_cons_zero, List.set_cons_succ, i64_w, i32_w]
                  rfl
                refine pure_ (i := 2) (N := some 24) (v := ?_) (a' := ?_) #[true, true, true, false, false, false, false, false, false, false, false, false, false] rfl rfl (any_of HT_.out (by kernel_rfl)) (fun _ _ _ h => h) (Or.inl ⟨by rfl, ?_⟩) ?_ ?_
                rotate_left
                · intro w'
                  go_simp
                  with_reducible rfl
                rotate_left
                · simp only [Act.put, List.setIfInBounds_toArray, List.set_cons_zero, List.set_cons_succ, i64_w, i32_w]
                  rfl
                refine pure_ (i := 3) (N := some 25) (v := ?_) (a' := ?_) #[true, true, true, true, false, false, false, false, false, false, false, false, false] rfl rfl (any_of HT_.out (by kernel_rfl)) (fun _ _ _ h => h) (Or.inl ⟨by rfl, ?_⟩) ?_ ?_
                rotate_left
                · intro w'
                  go_simp
                  with_reducible rfl
                rotate_left
                · simp only [Act.put, List.setIfInBounds_toArray, List.set_cons_zero, List.set_cons_succ, i64_w, i32_w]
                  rfl
                refine pure_ (i := 4) (N := some 26) (v := ?_) (a' := ?_) #[true, true, true, true, true, false, false, false, false, false, false, false, false] rfl rfl (any_of HT_.out (by kernel_rfl)) (fun _ _ _ h => h) (Or.inl ⟨by rfl, ?_⟩) ?_ ?_
                rotate_left
                · intro w'
                  go_simp
                  with_reducible rfl
                rotate_left
                · simp only [Act.put, List.setIfInBounds_toArray, List.set_cons_zero, List.set_cons_succ, i64_w, i32_w]
                  rfl
                refine pure_ (i := 5) (N := some 27) (v := ?_) (a' := ?_) #[true, true, true, true, true, true, false, false, false, false, false, false, false] rfl rfl (any_of HT_.out (by kernel_rfl)) (fun _ _ _ h => h) (Or.inl ⟨by rfl, ?_⟩) ?_ ?_
                rotate_left
                · intro w'
                  go_simp
                  with_reducible rfl
                rotate_left
                · simp only [Act.put, List.setIfInBounds_toArray, List.set_cons_zero, List.set_cons_succ, i64_w, i32_w]
                  rfl
                refine pure_ (i := 6) (N := some 28) (v := ?_) (a' := ?_) #[true, true, true, true, true, true, true, false, false, false, false, false, false] rfl rfl (any_of HT_.out (by kernel_rfl)) (fun _ _ _ h => h) (Or.inl ⟨by rfl, ?_⟩) ?_ ?_
                rotate_left
                · intro w'
                  go_simp
                  with_reducible rfl
                rotate_left
                · simp only [Act.put, List.setIfInBounds_toArray, List.set_cons_zero, List.set_cons_succ, i64_w, i32_w]
                  rfl
                refine pure_ (i := 7) (N := some 29) (v := ?_) (a' := ?_) #[true, true, true, true, true, true, true, true, false, false, false, false, false] rfl rfl (any_of HT_.out (by kernel_rfl)) (fun _ _ _ h => h) (Or.inl ⟨by rfl, ?_⟩) ?_ ?_
                rotate_left
                · intro w'
                  go_simp
                  with_reducible rfl
                rotate_left
                · simp only [Act.put, List.setIfInBounds_toArray, List.set_cons_zero, List.set_cons_succ, i64_w, i32_w]
                  rfl
                refine pure_ (i := 8) (N := some 30) (v := ?_) (a' := ?_) #[true, true, true, true, true, true, true, true, true, false, false, false, false] rfl rfl (any_of HT_.out (by kernel_rfl)) (fun _ _ _ h => h) (Or.inl ⟨by rfl, ?_⟩) ?_ ?_
                rotate_left
                · intro w'
                  go_simp
                  with_reducible rfl
                rotate_left
                · simp only [Act.put, List.setIfInBounds_toArray, List.set_cons_zero, List.set_cons_succ, i64_w, i32_w]
                  rfl
                refine pure_ (i := 9) (N := some 31) (v := ?_) (a' := ?_) #[true, true, true, true, true, true, true, true, true, true, false, false, false] rfl rfl (any_of HT_.out (by kernel_rfl)) (fun _ _ _ h => h) (Or.inl ⟨by rfl, ?_⟩) ?_ ?_
                rotate_left
                · intro w'
                  go_simp
                  with_reducible rfl
                rotate_left
                · simp only [Act.put, List.setIfInBounds_toArray, List.set_cons_zero, List.set_cons_succ, i64_w, i32_w]
                  rfl
                refine one_ (i := 10) (N := some 32) #[true, true, true, true, true, true, true, true, true, true, true, false, false] rfl rfl (one_of HT_.out (by kernel_rfl)) (by decide) (fun K hK => ?_)
                refine goes_ Tryz.func86 (by kernel_rfl) rfl #[.string ((t394 ++ t393).extract ((ji9) : Int).toNat (t394 ++ t393).size), .string (⟨#[48]⟩ : ByteArray)] (by rfl) rfl rfl (by (try simp only [List.map_toArray, List.map_cons, List.map_nil]); first | done | (simp only [hji9]; rfl) | rfl | (simp only [List.length_drop, List.length_take]; rfl) | (simp only [ByteArray.size_append, Int.natCast_add]; done) | (simp only [ByteArray.size_append, Int.natCast_add]; rfl) | (simp only [Array.mk.injEq, List.cons.injEq, Value.int.injEq, true_and, and_true]; (try simp only [mx, mn, wrap64] at *); omega)) ?_
                with_reducible refine (strings_TrimRight.calls ((t394 ++ t393).extract ((ji9) : Int).toNat (t394 ++ t393).size) (⟨#[48]⟩ : ByteArray) t395 _ A14.out).mono ?_
                rintro e w21 ⟨rfl, hb⟩
                refine ⟨_, rfl, ?_⟩
                have n0_ := Aside0.mk (below_step (by repeat (first | (with_reducible first | exact HB.out | apply below_alloc | apply pw_below_drewN | apply below_drew1) | exact HB.out)) hb)
                clear HB
                have HB := n0_
                clear n0_
                (try clear hb)
                (try clear hb2)
                (try clear hk)
                (try clear hi)
                refine hK.out _ _ trivial (fun hHeld => ?_)
                clear hK K
                refine norm_ (a' := ?_) ?_ ?_
                rotate_left
                · show Act.put _ (some 32) _ = _
                  simp only [Act.put, List.setIfInBounds_toArray, List.set_cons_zero, List.set_cons_succ, i64_w, i32_w]
                  rfl
                refine pure_ (i := 11) (N := some 5) (v := ?_) (a' := ?_) #[true, true, true, true, true, true, true, true, true, true, true, true, false] rfl rfl (any_of HT_.out (by kernel_rfl)) (fun _ _ _ h => h) (Or.inl ⟨by rfl, ?_⟩) ?_ ?_
                rotate_left
                · intro w'
                  go_simp
                  with_reducible rfl
                rotate_left
                · simp only [Act.put, List.setIfInBounds_toArray, List.set_cons_zero, List.set_cons_succ, i64_w, i32_w]
                  rfl
                refine pure_ (i := 12) (N := some 6) (v := ?_) (a' := ?_) #[true, true, true, true, true, true, true, true, true, true, true, true, true] rfl rfl (any_of HT_.out (by kernel_rfl)) (fun _ _ _ h => h) (Or.inl ⟨by rfl, ?_⟩) ?_ ?_
                rotate_left
                · intro w'
                  go_simp
                  with_reducible rfl
                rotate_left
                · simp only [Act.put, List.setIfInBounds_toArray, List.set_cons_zero, List.set_cons_succ, i64_w, i32_w]
                  rfl
                refine done_ (done_of HT_.out (by kernel_rfl)) ?_
                try go_wp2
                go_ret2
                exact ⟨by first | rfl | (simp [errW_none, errW_some] <;> rfl) | (simp only [← hji4, ← hji6, ← hji9]; first | rfl | (simp [errW_none, errW_some] <;> rfl)) | (simp [*, errW_none, errW_some] <;> rfl), by repeat (first | (with_reducible first | exact HB.out | apply below_alloc | apply pw_below_drewN | apply below_drew1) | exact HB.out)⟩
              · rw [if_neg c17] at H
                exact absurd H (by simp)
            · rw [if_neg c16] at H
              have c16b0 : decide (a0 < 0) = false := decide_eq_false c16
              clear c16
              simp only [Option.some.injEq, Prod.mk.injEq] at H
              obtain ⟨rfl, rfl⟩ := H
              (try (have hji4u_ : (if a0 < ((-a0)) then ((-a0)) else a0) = ji4 := by (have e_ := hji4_; simp only [wrap64] at e_; omega)))
              (try (have hji4v_ := hji4u_; simp at hji4v_))
              (try (have hji6u_ : (if 0 < ((7 - (t393.size : Int))) then ((7 - (t393.size : Int))) else 0) = ji6 := by (have e_ := hji6_; simp only [wrap64] at e_; omega)))
              (try (have hji6v_ := hji6u_; simp at hji6v_))
              (try (have hji9n_ := hji9; simp only [ByteArray.size_append, Int.natCast_add] at hji9n_))
              (try (have hji9m_ := hji9; rw [ByteArray.size_extract, Nat.min_eq_left (by omega), Nat.sub_zero] at hji9m_))
              (try (have hji9j_ := hji9; simp only [ByteArray.size_append, ByteArray.size_extract, show ∀ z : UInt8, (⟨#[z]⟩ : ByteArray).size = 1 from fun _ => rfl] at hji9j_; (repeat rw [Nat.min_eq_left (by omega)] at hji9j_); (try simp only [Nat.sub_zero] at hji9j_); have hji9f_ := eq_false (Nat.not_lt.2 hji9j_)))
              (try (have hji9k_ := hji9; simp only [ByteArray.size_append, ByteArray.size_extract, show ∀ z : UInt8, (⟨#[z]⟩ : ByteArray).size = 1 from fun _ => rfl] at hji9k_; (repeat rw [Nat.min_eq_left (by omega)] at hji9k_); (try simp only [Nat.sub_zero] at hji9k_); (try simp at hji9k_)))
              (try (have c11b1n_ := of_decide_eq_true c11b1; simp only [ByteArray.size_append, Int.natCast_add] at c11b1n_))
              (try (have c11b1m_ := of_decide_eq_true c11b1; rw [ByteArray.size_extract, Nat.min_eq_left (by omega), Nat.sub_zero] at c11b1m_))
              (try (have c11b1j_ := of_decide_eq_true c11b1; simp only [ByteArray.size_append, ByteArray.size_extract, show ∀ z : UInt8, (⟨#[z]⟩ : ByteArray).size = 1 from fun _ => rfl] at c11b1j_; (repeat rw [Nat.min_eq_left (by omega)] at c11b1j_); (try simp only [Nat.sub_zero] at c11b1j_); have c11b1f_ := eq_false (Nat.not_lt.2 c11b1j_)))
              (try (have c11b1k_ := of_decide_eq_true c11b1; simp only [ByteArray.size_append, ByteArray.size_extract, show ∀ z : UInt8, (⟨#[z]⟩ : ByteArray).size = 1 from fun _ => rfl] at c11b1k_; (repeat rw [Nat.min_eq_left (by omega)] at c11b1k_); (try simp only [Nat.sub_zero] at c11b1k_); (try simp at c11b1k_)))
              go_enter Tryz.func73, Tryz.ntmps73
              try go_wp2_with (first | ((with_reducible refine gate_callee (f := 38) rfl ?_); refine goesL_ (some 8) rfl rfl Tryz.func38 (by kernel_rfl) rfl #[.int .i64 a0] rfl (by (try simp only [List.map_toArray, List.map_cons, List.map_nil]); first | done | rfl | (simp only [List.length_drop, List.length_take]; rfl) | (simp only [ByteArray.size_append, Int.natCast_add]; done) | (simp only [ByteArray.size_append, Int.natCast_add]; rfl) | (simp only [Array.mk.injEq, List.cons.injEq, Value.int.injEq, true_and, and_true]; (try simp only [mx, mn, wrap64] at *); omega)) ?_; (with_reducible refine (num_Fits.calls a0 true _ A2.out).mono ?_); rintro e w' ⟨rfl, ⟨nd, rfl⟩⟩; refine ⟨_, rfl, ?_⟩) | ((with_reducible refine gate_callee (f := 84) rfl ?_); refine goesL_ (some 14) rfl rfl Tryz.func84 (by kernel_rfl) rfl #[.int .i64 ji4] rfl (by (try simp only [List.map_toArray, List.map_cons, List.map_nil]); first | done | (simp only [hji4]; rfl) | rfl | (simp only [List.length_drop, List.length_take]; rfl) | (simp only [ByteArray.size_append, Int.natCast_add]; done) | (simp only [ByteArray.size_append, Int.natCast_add]; rfl) | (simp only [Array.mk.injEq, List.cons.injEq, Value.int.injEq, true_and, and_true]; (try simp only [mx, mn, wrap64] at *); omega)) ?_; (with_reducible refine (strconv_Itoa.calls ji4 t393 _ A5.out (LaidAt hL0 (by repeat (first | (with_reducible first | exact HB.out | apply below_alloc | apply pw_below_drewN | apply below_drew1) | exact HB.out)))).mono ?_); rintro e w22 ⟨rfl, hb⟩; refine ⟨_, rfl, ?_⟩; have n0_ := Aside0.mk (below_step (by repeat (first | (with_reducible first | exact HB.out | apply below_alloc | apply pw_below_drewN | apply below_drew1) | exact HB.out)) hb); clear HB; have HB := n0_; clear n0_; (try clear hb); (try clear hb2); (try clear hk); (try clear hi)) | ((with_reducible refine gate_callee (f := 85) rfl ?_); refine goesL_ (some 19) rfl rfl Tryz.func85 (by kernel_rfl) rfl #[.string (⟨#[48]⟩ : ByteArray), .int .i64 ji6] rfl (by (try simp only [List.map_toArray, List.map_cons, List.map_nil]); first | done | (simp only [hji6]; rfl) | rfl | (simp only [List.length_drop, List.length_take]; rfl) | (simp only [ByteArray.size_append, Int.natCast_add]; done) | (simp only [ByteArray.size_append, Int.natCast_add]; rfl) | (simp only [Array.mk.injEq, List.cons.injEq, Value.int.injEq, true_and, and_true]; (try simp only [mx, mn, wrap64] at *); omega)) ?_; (with_reducible refine (strings_Repeat.calls (⟨#[48]⟩ : ByteArray) ji6 t394 _ A7.out).mono ?_); rintro e w23 ⟨rfl, hb⟩; refine ⟨_, rfl, ?_⟩; have n0_ := Aside0.mk (below_step (by repeat (first | (with_reducible first | exact HB.out | apply below_alloc | apply pw_below_drewN | apply below_drew1) | exact HB.out)) hb); clear HB; have HB := n0_; clear n0_; (try clear hb); (try clear hb2); (try clear hk); (try clear hi)))
              have n0_ := Aside0.mk (below_drew1 HB.out)
              clear HB
              have HB := n0_
              clear n0_
              refine start_ (n := 13) (S := fun w' => True) (ds := []) #[false, false, false, false, false, false, false, false, false, false, false, false, false] (by kernel_rfl) rfl rfl trivial (fun hHeld => ?_); refine with_tabW num_Print.tab5 num_Print.bits5 (fun HT_ HW_ => ?_)
              generalize w23.drew = w24 at HB hHeld ⊢
              refine pure_ (i := 0) (N := some 22) (v := ?_) (a' := ?_) #[true, false, false, false, false, false, false, false, false, false, false, false, false] rfl rfl (any_of HT_.out (by kernel_rfl)) (fun _ _ _ h => h) (Or.inl ⟨by rfl, ?_⟩) ?_ ?_
              rotate_left
              · intro w'
                go_simp
                with_reducible rfl
              rotate_left
              · simp only [Act.put, List.setIfInBounds_toArray, List.set_cons_zero, List.set_cons_succ, i64_w, i32_w]
                rfl
              refine pure_ (i := 1) (N := some 23) (v := ?_) (a' := ?_) #[true, true, false, false, false, false, false, false, false, false, false, false, false] rfl rfl (any_of HT_.out (by kernel_rfl)) (fun _ _ _ h => h) (Or.inl ⟨by rfl, ?_⟩) ?_ ?_
              rotate_left
              · intro w'
                go_simp
                with_reducible rfl
              rotate_left
              · simp only [Act.put, List.setIfInBounds_toArray, List.set_cons_zero, List.set_cons_succ, i64_w, i32_w]
                rfl
              refine pure_ (i := 2) (N := some 24) (v := ?_) (a' := ?_) #[true, true, true, false, false, false, false, false, false, false, false, false, false] rfl rfl (any_of HT_.out (by kernel_rfl)) (fun _ _ _ h => h) (Or.inl ⟨by rfl, ?_⟩) ?_ ?_
              rotate_left
              · intro w'
                go_simp
                with_reducible rfl
              rotate_left
              · simp only [Act.put, List.setIfInBounds_toArray, List.set_cons_zero, List.set_cons_succ, i64_w, i32_w]
                rfl
              refine pure_ (i := 3) (N := some 25) (v := ?_) (a' := ?_) #[true, true, true, true, false, false, false, false, false, false, false, false, false] rfl rfl (any_of HT_.out (by kernel_rfl)) (fun _ _ _ h => h) (Or.inl ⟨by rfl, ?_⟩) ?_ ?_
              rotate_left
              · intro w'
                go_simp
                with_reducible rfl
              rotate_left
              · simp only [Act.put, List.setIfInBounds_toArray, List.set_cons_zero, List.set_cons_succ, i64_w, i32_w]
                rfl
              refine pure_ (i := 4) (N := some 26) (v := ?_) (a' := ?_) #[true, true, true, true, true, false, false, false, false, false, false, false, false] rfl rfl (any_of HT_.out (by kernel_rfl)) (fun _ _ _ h => h) (Or.inl ⟨by rfl, ?_⟩) ?_ ?_
              rotate_left
              · intro w'
                go_simp
                with_reducible rfl
              rotate_left
              · simp only [Act.put, List.setIfInBounds_toArray, List.set_cons_zero, List.set_cons_succ, i64_w, i32_w]
                rfl
              refine pure_ (i := 5) (N := some 27) (v := ?_) (a' := ?_) #[true, true, true, true, true, true, false, false, false, false, false, false, false] rfl rfl (any_of HT_.out (by kernel_rfl)) (fun _ _ _ h => h) (Or.inl ⟨by rfl, ?_⟩) ?_ ?_
              rotate_left
              · intro w'
                go_simp
                with_reducible rfl
              rotate_left
              · simp only [Act.put, List.setIfInBounds_toArray, List.set_cons_zero, List.set_cons_succ, i64_w, i32_w]
                rfl
              refine pure_ (i := 6) (N := some 28) (v := ?_) (a' := ?_) #[true, true, true, true, true, true, true, false, false, false, false, false, false] rfl rfl (any_of HT_.out (by kernel_rfl)) (fun _ _ _ h => h) (Or.inl ⟨by rfl, ?_⟩) ?_ ?_
              rotate_left
              · intro w'
                go_simp
                with_reducible rfl
              rotate_left
              · simp only [Act.put, List.setIfInBounds_toArray, List.set_cons_zero, List.set_cons_succ, i64_w, i32_w]
                rfl
              refine pure_ (i := 7) (N := some 29) (v := ?_) (a' := ?_) #[true, true, true, true, true, true, true, true, false, false, false, false, false] rfl rfl (any_of HT_.out (by kernel_rfl)) (fun _ _ _ h => h) (Or.inl ⟨by rfl, ?_⟩) ?_ ?_
              rotate_left
              · intro w'
                go_simp
                with_reducible rfl
              rotate_left
              · simp only [Act.put, List.setIfInBounds_toArray, List.set_cons_zero, List.set_cons_succ, i64_w, i32_w]
                rfl
              refine pure_ (i := 8) (N := some 30) (v := ?_) (a' := ?_) #[true, true, true, true, true, true, true, true, true, false, false, false, false] rfl rfl (any_of HT_.out (by kernel_rfl)) (fun _ _ _ h => h) (Or.inl ⟨by rfl, ?_⟩) ?_ ?_
              rotate_left
              · intro w'
                go_simp
                with_reducible rfl
              rotate_left
              · simp only [Act.put, List.setIfInBounds_toArray, List.set_cons_zero, List.set_cons_succ, i64_w, i32_w]
                rfl
              refine pure_ (i := 9) (N := some 31) (v := ?_) (a' := ?_) #[true, true, true, true, true, true, true, true, true, true, false, false, false] rfl rfl (any_of HT_.out (by kernel_rfl)) (fun _ _ _ h => h) (Or.inl ⟨by rfl, ?_⟩) ?_ ?_
              rotate_left
              · intro w'
                go_simp
                with_reducible rfl
              rotate_left
              · simp only [Act.put, List.setIfInBounds_toArray, List.set_cons_zero, List.set_cons_succ, i64_w, i32_w]
                rfl
              refine one_ (i := 10) (N := some 32) #[true, true, true, true, true, true, true, true, true, true, true, false, false] rfl rfl (one_of HT_.out (by kernel_rfl)) (by decide) (fun K hK => ?_)
              refine goes_ Tryz.func86 (by kernel_rfl) rfl #[.string ((t394 ++ t393).extract ((ji9) : Int).toNat (t394 ++ t393).size), .string (⟨#[48]⟩ : ByteArray)] (by rfl) rfl rfl (by (try simp only [List.map_toArray, List.map_cons, List.map_nil]); first | done | (simp only [hji9]; rfl) | rfl | (simp only [List.length_drop, List.length_take]; rfl) | (simp only [ByteArray.size_append, Int.natCast_add]; done) | (simp only [ByteArray.size_append, Int.natCast_add]; rfl) | (simp only [Array.mk.injEq, List.cons.injEq, Value.int.injEq, true_and, and_true]; (try simp only [mx, mn, wrap64] at *); omega)) ?_
              with_reducible refine (strings_TrimRight.calls ((t394 ++ t393).extract ((ji9) : Int).toNat (t394 ++ t393).size) (⟨#[48]⟩ : ByteArray) t395 _ A14.out).mono ?_
              rintro e w25 ⟨rfl, hb⟩
              refine ⟨_, rfl, ?_⟩
              have n0_ := Aside0.mk (below_step (by repeat (first | (with_reducible first | exact HB.out | apply below_alloc | apply pw_below_drewN | apply below_drew1) | exact HB.out)) hb)
              clear HB
              have HB := n0_
              clear n0_
              (try clear hb)
              (try clear hb2)
              (try clear hk)
              (try clear hi)
              refine hK.out _ _ trivial (fun hHeld => ?_)
              clear hK K
              refine norm_ (a' := ?_) ?_ ?_
              rotate_left
              · show Act.put _ (some 32) _ = _
                simp only [Act.put, List.setIfInBounds_toArray, List.set_cons_zero, List.set_cons_succ, i64_w, i32_w]
                rfl
              refine pure_ (i := 11) (N := some 5) (v := ?_) (a' := ?_) #[true, true, true, true, true, true, true, true, true, true, true, true, false] rfl rfl (any_of HT_.out (by kernel_rfl)) (fun _ _ _ h => h) (Or.inl ⟨by rfl, ?_⟩) ?_ ?_
              rotate_left
              · intro w'
                go_simp
                with_reducible rfl
              rotate_left
              · simp only [Act.put, List.setIfInBounds_toArray, List.set_cons_zero, List.set_cons_succ, i64_w, i32_w]
                rfl
              refine pure_ (i := 12) (N := some 6) (v := ?_) (a' := ?_) #[true, true, true, true, true, true, true, true, true, true, true, true, true] rfl rfl (any_of HT_.out (by kernel_rfl)) (fun _ _ _ h => h) (Or.inl ⟨by rfl, ?_⟩) ?_ ?_
              rotate_left
              · intro w'
                go_simp
                with_reducible rfl
              rotate_left
              · simp only [Act.put, List.setIfInBounds_toArray, List.set_cons_zero, List.set_cons_succ, i64_w, i32_w]
                rfl
              refine done_ (done_of HT_.out (by kernel_rfl)) ?_
              try go_wp2
              go_ret2
              exact ⟨by first | rfl | (simp [errW_none, errW_some] <;> rfl) | (simp only [← hji4, ← hji6, ← hji9]; first | rfl | (simp [errW_none, errW_some] <;> rfl)) | (simp [*, errW_none, errW_some] <;> rfl), by repeat (first | (with_reducible first | exact HB.out | apply below_alloc | apply pw_below_drewN | apply below_drew1) | exact HB.out)⟩
          · rw [if_neg c15] at H
            have c15b0 : (t395.toList == ([] : List UInt8)) = false := beq_eq_false_iff_ne.mpr c15
            have c15b1 : (t395.toList != ([] : List UInt8)) = true := bne_iff_ne.mpr c15
            by_cases c26 : 1 + t395.size ≤ 9223372036854775807
            · rw [if_pos c26] at H
              have c26b0 := eq_true c26
              have c26b1 : decide (1 + t395.size ≤ 9223372036854775807) = true := decide_eq_true c26
              try have c26b2 : (9223372036854775807 < 1 + t395.size) = False := eq_false (Nat.not_lt.2 c26)
              by_cases c27 : ((t394 ++ t393).extract 0 ((ji9) : Int).toNat).size + ((⟨#[46]⟩ : ByteArray) ++ t395).size ≤ 9223372036854775807
              · rw [if_pos c27] at H
                have c27b0 := eq_true c27
                have c27b1 : decide (((t394 ++ t393).extract 0 ((ji9) : Int).toNat).size + ((⟨#[46]⟩ : ByteArray) ++ t395).size ≤ 9223372036854775807) = true := decide_eq_true c27
                try have c27b2 : (9223372036854775807 < ((t394 ++ t393).extract 0 ((ji9) : Int).toNat).size + ((⟨#[46]⟩ : ByteArray) ++ t395).size) = False := eq_false (Nat.not_lt.2 c27)
                by_cases c28 : a0 < 0
                · rw [if_pos c28] at H
                  have c28b0 : decide (a0 < 0) = true := decide_eq_true c28
                  clear c28
                  by_cases c29 : 1 + (((t394 ++ t393).extract 0 ((ji9) : Int).toNat) ++ ((⟨#[46]⟩ : ByteArray) ++ t395)).size ≤ 9223372036854775807
                  · rw [if_pos c29] at H
                    have c29b0 := eq_true c29
                    have c29b1 : decide (1 + (((t394 ++ t393).extract 0 ((ji9) : Int).toNat) ++ ((⟨#[46]⟩ : ByteArray) ++ t395)).size ≤ 9223372036854775807) = true := decide_eq_true c29
                    try have c29b2 : (9223372036854775807 < 1 + (((t394 ++ t393).extract 0 ((ji9) : Int).toNat) ++ ((⟨#[46]⟩ : ByteArray) ++ t395)).size) = False := eq_false (Nat.not_lt.2 c29)
                    simp only [Option.some.injEq, Prod.mk.injEq] at H
                    obtain ⟨rfl, rfl⟩ := H
                    (try (have hji4u_ : (if a0 < ((-a0)) then ((-a0)) else a0) = ji4 := by (have e_ := hji4_; simp only [wrap64] at e_; omega)))
                    (try (have hji4v_ := hji4u_; simp at hji4v_))
                    (try (have hji6u_ : (if 0 < ((7 - (t393.size : Int))) then ((7 - (t393.size : Int))) else 0) = ji6 := by (have e_ := hji6_; simp only [wrap64] at e_; omega)))
                    (try (have hji6v_ := hji6u_; simp at hji6v_))
                    (try (have hji9n_ := hji9; simp only [ByteArray.size_append, Int.natCast_add] at hji9n_))
                    (try (have hji9m_ := hji9; rw [ByteArray.size_extract, Nat.min_eq_left (by omega), Nat.sub_zero] at hji9m_))
                    (try (have hji9j_ := hji9; simp only [ByteArray.size_append, ByteArray.size_extract, show ∀ z : UInt8, (⟨#[z]⟩ : ByteArray).size = 1 from fun _ => rfl] at hji9j_; (repeat rw [Nat.min_eq_left (by omega)] at hji9j_); (try simp only [Nat.sub_zero] at hji9j_); have hji9f_ := eq_false (Nat.not_lt.2 hji9j_)))
                    (try (have hji9k_ := hji9; simp only [ByteArray.size_append, ByteArray.size_extract, show ∀ z : UInt8, (⟨#[z]⟩ : ByteArray).size = 1 from fun _ => rfl] at hji9k_; (repeat rw [Nat.min_eq_left (by omega)] at hji9k_); (try simp only [Nat.sub_zero] at hji9k_); (try simp at hji9k_)))
                    (try (have c11b1n_ := of_decide_eq_true c11b1; simp only [ByteArray.size_append, Int.natCast_add] at c11b1n_))
                    (try (have c11b1m_ := of_decide_eq_true c11b1; rw [ByteArray.size_extract, Nat.min_eq_left (by omega), Nat.sub_zero] at c11b1m_))
                    (try (have c11b1j_ := of_decide_eq_true c11b1; simp only [ByteArray.size_append, ByteArray.size_extract, show ∀ z : UInt8, (⟨#[z]⟩ : ByteArray).size = 1 from fun _ => rfl] at c11b1j_; (repeat rw [Nat.min_eq_left (by omega)] at c11b1j_); (try simp only [Nat.sub_zero] at c11b1j_); have c11b1f_ := eq_false (Nat.not_lt.2 c11b1j_)))
                    (try (have c11b1k_ := of_decide_eq_true c11b1; simp only [ByteArray.size_append, ByteArray.size_extract, show ∀ z : UInt8, (⟨#[z]⟩ : ByteArray).size = 1 from fun _ => rfl] at c11b1k_; (repeat rw [Nat.min_eq_left (by omega)] at c11b1k_); (try simp only [Nat.sub_zero] at c11b1k_); (try simp at c11b1k_)))
                    (try (have c27b1n_ := of_decide_eq_true c27b1; simp only [ByteArray.size_append, Int.natCast_add] at c27b1n_))
                    (try (have c27b1m_ := of_decide_eq_true c27b1; rw [ByteArray.size_extract, Nat.min_eq_left (by omega), Nat.sub_zero] at c27b1m_))
                    (try (have c27b1j_ := of_decide_eq_true c27b1; simp only [ByteArray.size_append, ByteArray.size_extract, show ∀ z : UInt8, (⟨#[z]⟩ : ByteArray).size = 1 from fun _ => rfl] at c27b1j_; (repeat rw [Nat.min_eq_left (by omega)] at c27b1j_); (try simp only [Nat.sub_zero] at c27b1j_); have c27b1f_ := eq_false (Nat.not_lt.2 c27b1j_)))
                    (try (have c27b1k_ := of_decide_eq_true c27b1; simp only [ByteArray.size_append, ByteArray.size_extract, show ∀ z : UInt8, (⟨#[z]⟩ : ByteArray).size = 1 from fun _ => rfl] at c27b1k_; (repeat rw [Nat.min_eq_left (by omega)] at c27b1k_); (try simp only [Nat.sub_zero] at c27b1k_); (try simp at c27b1k_)))
                    (try (have c29b1n_ := of_decide_eq_true c29b1; simp only [ByteArray.size_append, Int.natCast_add] at c29b1n_))
                    (try (have c29b1m_ := of_decide_eq_true c29b1; rw [ByteArray.size_extract, Nat.min_eq_left (by omega), Nat.sub_zero] at c29b1m_))
                    (try (have c29b1j_ := of_decide_eq_true c29b1; simp only [ByteArray.size_append, ByteArray.size_extract, show ∀ z : UInt8, (⟨#[z]⟩ : ByteArray).size = 1 from fun _ => rfl] at c29b1j_; (repeat rw [Nat.min_eq_left (by omega)] at c29b1j_); (try simp only [Nat.sub_zero] at c29b1j_); have c29b1f_ := eq_false (Nat.not_lt.2 c29b1j_)))
                    (try (have c29b1k_ := of_decide_eq_true c29b1; simp only [ByteArray.size_append, ByteArray.size_extract, show ∀ z : UInt8, (⟨#[z]⟩ : ByteArray).size = 1 from fun _ => rfl] at c29b1k_; (repeat rw [Nat.min_eq_left (by omega)] at c29b1k_); (try simp only [Nat.sub_zero] at c29b1k_); (try simp at c29b1k_)))
                    go_enter Tryz.func73, Tryz.ntmps73
                    try go_wp2_with (first | ((with_reducible refine gate_callee (f := 38) rfl ?_); refine goesL_ (some 8) rfl rfl Tryz.func38 (by kernel_rfl) rfl #[.int .i64 a0] rfl (by (try simp only [List.map_toArray, List.map_cons, List.map_nil]); first | done | rfl | (simp only [List.length_drop, List.length_take]; rfl) | (simp only [ByteArray.size_append, Int.natCast_add]; done) | (simp only [ByteArray.size_append, Int.natCast_add]; rfl) | (simp only [Array.mk.injEq, List.cons.injEq, Value.int.injEq, true_and, and_true]; (try simp only [mx, mn, wrap64] at *); omega)) ?_; (with_reducible refine (num_Fits.calls a0 true _ A2.out).mono ?_); rintro e w' ⟨rfl, ⟨nd, rfl⟩⟩; refine ⟨_, rfl, ?_⟩) | ((with_reducible refine gate_callee (f := 84) rfl ?_); refine goesL_ (some 14) rfl rfl Tryz.func84 (by kernel_rfl) rfl #[.int .i64 ji4] rfl (by (try simp only [List.map_toArray, List.map_cons, List.map_nil]); first | done | (simp only [hji4]; rfl) | rfl | (simp only [List.length_drop, List.length_take]; rfl) | (simp only [ByteArray.size_append, Int.natCast_add]; done) | (simp only [ByteArray.size_append, Int.natCast_add]; rfl) | (simp only [Array.mk.injEq, List.cons.injEq, Value.int.injEq, true_and, and_true]; (try simp only [mx, mn, wrap64] at *); omega)) ?_; (with_reducible refine (strconv_Itoa.calls ji4 t393 _ A5.out (LaidAt hL0 (by repeat (first | (with_reducible first | exact HB.out | apply below_alloc | apply pw_below_drewN | apply below_drew1) | exact HB.out)))).mono ?_); rintro e w30 ⟨rfl, hb⟩; refine ⟨_, rfl, ?_⟩; have n0_ := Aside0.mk (below_step (by repeat (first | (with_reducible first | exact HB.out | apply below_alloc | apply pw_below_drewN | apply below_drew1) | exact HB.out)) hb); clear HB; have HB := n0_; clear n0_; (try clear hb); (try clear hb2); (try clear hk); (try clear hi)) | ((with_reducible refine gate_callee (f := 85) rfl ?_); refine goesL_ (some 19) rfl rfl Tryz.func85 (by kernel_rfl) rfl #[.string (⟨#[48]⟩ : ByteArray), .int .i64 ji6] rfl (by (try simp only [List.map_toArray, List.map_cons, List.map_nil]); first | done | (simp only [hji6]; rfl) | rfl | (simp only [List.length_drop, List.length_take]; rfl) | (simp only [ByteArray.size_append, Int.natCast_add]; done) | (simp only [ByteArray.size_append, Int.natCast_add]; rfl) | (simp only [Array.mk.injEq, List.cons.injEq, Value.int.injEq, true_and, and_true]; (try simp only [mx, mn, wrap64] at *); omega)) ?_; (with_reducible refine (strings_Repeat.calls (⟨#[48]⟩ : ByteArray) ji6 t394 _ A7.out).mono ?_); rintro e w31 ⟨rfl, hb⟩; refine ⟨_, rfl, ?_⟩; have n0_ := Aside0.mk (below_step (by repeat (first | (with_reducible first | exact HB.out | apply below_alloc | apply pw_below_drewN | apply below_drew1) | exact HB.out)) hb); clear HB; have HB := n0_; clear n0_; (try clear hb); (try clear hb2); (try clear hk); (try clear hi)))
                    have n0_ := Aside0.mk (below_drew1 HB.out)
                    clear HB
                    have HB := n0_
                    clear n0_
                    refine start_ (n := 13) (S := fun w' => True) (ds := []) #[false, false, false, false, false, false, false, false, false, false, false, false, false] (by kernel_rfl) rfl rfl trivial (fun hHeld => ?_); refine with_tabW num_Print.tab5 num_Print.bits5 (fun HT_ HW_ => ?_)
                    generalize w31.drew = w32 at HB hHeld ⊢
                    refine pure_ (i := 0) (N := some 22) (v := ?_) (a' := ?_) #[true, false, false, false, false, false, false, false, false, false, false, false, false] rfl rfl (any_of HT_.out (by kernel_rfl)) (fun _ _ _ h => h) (Or.inl ⟨by rfl, ?_⟩) ?_ ?_
                    rotate_left
                    · intro w'
                      go_simp
                      with_reducible rfl
                    rotate_left
                    · simp only [Act.put, List.setIfInBounds_toArray, List.set_cons_zero, List.set_cons_succ, i64_w, i32_w]
                      rfl
                    refine pure_ (i := 1) (N := some 23) (v := ?_) (a' := ?_) #[true, true, false, false, false, false, false, false, false, false, false, false, false] rfl rfl (any_of HT_.out (by kernel_rfl)) (fun _ _ _ h => h) (Or.inl ⟨by rfl, ?_⟩) ?_ ?_
                    rotate_left
                    · intro w'
                      go_simp
                      with_reducible rfl
                    rotate_left
                    · simp only [Act.put, List.setIfInBounds_toArray, List.set_cons_zero, List.set_cons_succ, i64_w, i32_w]
                      rfl
                    refine pure_ (i := 2) (N := some 24) (v := ?_) (a' := ?_) #[true, true, true, false, false, false, false, false, false, false, false, false, false] rfl rfl (any_of HT_.out (by kernel_rfl)) (fun _ _ _ h => h) (Or.inl ⟨by rfl, ?_⟩) ?_ ?_
                    rotate_left
                    · intro w'
                      go_simp
                      with_reducible rfl
                    rotate_left
                    · simp only [Act.put, List.setIfInBounds_toArray, List.set_cons_zero, List.set_cons_succ, i64_w, i32_w]
                      rfl
                    refine pure_ (i := 3) (N := some 25) (v := ?_) (a' := ?_) #[true, true, true, true, false, false, false, false, false, false, false, false, false] rfl rfl (any_of HT_.out (by kernel_rfl)) (fun _ _ _ h => h) (Or.inl ⟨by rfl, ?_⟩) ?_ ?_
                    rotate_left
                    · intro w'
                      go_simp
                      with_reducible rfl
                    rotate_left
                    · simp only [Act.put, List.setIfInBounds_toArray, List.set_cons_zero, List.set_cons_succ, i64_w, i32_w]
                      rfl
                    refine pure_ (i := 4) (N := some 26) (v := ?_) (a' := ?_) #[true, true, true, true, true, false, false, false, false, false, false, false, false] rfl rfl (any_of HT_.out (by kernel_rfl)) (fun _ _ _ h => h) (Or.inl ⟨by rfl, ?_⟩) ?_ ?_
                    rotate_left
                    · intro w'
                      go_simp
                      with_reducible rfl
                    rotate_left
                    · simp only [Act.put, List.setIfInBounds_toArray, List.set_cons_zero, List.set_cons_succ, i64_w, i32_w]
                      rfl
                    refine pure_ (i := 5) (N := some 27) (v := ?_) (a' := ?_) #[true, true, true, true, true, true, false, false, false, false, false, false, false] rfl rfl (any_of HT_.out (by kernel_rfl)) (fun _ _ _ h => h) (Or.inl ⟨by rfl, ?_⟩) ?_ ?_
                    rotate_left
                    · intro w'
                      go_simp
                      with_reducible rfl
                    rotate_left
                    · simp only [Act.put, List.setIfInBounds_toArray, List.set_cons_zero, List.set_cons_succ, i64_w, i32_w]
                      rfl
                    refine pure_ (i := 6) (N := some 28) (v := ?_) (a' := ?_) #[true, true, true, true, true, true, true, false, false, false, false, false, false] rfl rfl (any_of HT_.out (by kernel_rfl)) (fun _ _ _ h => h) (Or.inl ⟨by rfl, ?_⟩) ?_ ?_
                    rotate_left
                    · intro w'
                      go_simp
                      with_reducible rfl
                    rotate_left
                    · simp only [Act.put, List.setIfInBounds_toArray, List.set_cons_zero, List.set_cons_succ, i64_w, i32_w]
                      rfl
                    refine pure_ (i := 7) (N := some 29) (v := ?_) (a' := ?_) #[true, true, true, true, true, true, true, true, false, false, false, false, false] rfl rfl (any_of HT_.out (by kernel_rfl)) (fun _ _ _ h => h) (Or.inl ⟨by rfl, ?_⟩) ?_ ?_
                    rotate_left
                    · intro w'
                      go_simp
                      with_reducible rfl
                    rotate_left
                    · simp only [Act.put, List.setIfInBounds_toArray, List.set_cons_zero, List.set_cons_succ, i64_w, i32_w]
                      rfl
                    refine pure_ (i := 8) (N := some 30) (v := ?_) (a' := ?_) #[true, true, true, true, true, true, true, true, true, false, false, false, false] rfl rfl (any_of HT_.out (by kernel_rfl)) (fun _ _ _ h => h) (Or.inl ⟨by rfl, ?_⟩) ?_ ?_
                    rotate_left
                    · intro w'
                      go_simp
                      with_reducible rfl
                    rotate_left
                    · simp only [Act.put, List.setIfInBounds_toArray, List.set_cons_zero, List.set_cons_succ, i64_w, i32_w]
                      rfl
                    refine pure_ (i := 9) (N := some 31) (v := ?_) (a' := ?_) #[true, true, true, true, true, true, true, true, true, true, false, false, false] rfl rfl (any_of HT_.out (by kernel_rfl)) (fun _ _ _ h => h) (Or.inl ⟨by rfl, ?_⟩) ?_ ?_
                    rotate_left
                    · intro w'
                      go_simp
                      with_reducible rfl
                    rotate_left
                    · simp only [Act.put, List.setIfInBounds_toArray, List.set_cons_zero, List.set_cons_succ, i64_w, i32_w]
                      rfl
                    refine one_ (i := 10) (N := some 32) #[true, true, true, true, true, true, true, true, true, true, true, false, false] rfl rfl (one_of HT_.out (by kernel_rfl)) (by decide) (fun K hK => ?_)
                    refine goes_ Tryz.func86 (by kernel_rfl) rfl #[.string ((t394 ++ t393).extract ((ji9) : Int).toNat (t394 ++ t393).size), .string (⟨#[48]⟩ : ByteArray)] (by rfl) rfl rfl (by (try simp only [List.map_toArray, List.map_cons, List.map_nil]); first | done | (simp only [hji9]; rfl) | rfl | (simp only [List.length_drop, List.length_take]; rfl) | (simp only [ByteArray.size_append, Int.natCast_add]; done) | (simp only [ByteArray.size_append, Int.natCast_add]; rfl) | (simp only [Array.mk.injEq, List.cons.injEq, Value.int.injEq, true_and, and_true]; (try simp only [mx, mn, wrap64] at *); omega)) ?_
                    with_reducible refine (strings_TrimRight.calls ((t394 ++ t393).extract ((ji9) : Int).toNat (t394 ++ t393).size) (⟨#[48]⟩ : ByteArray) t395 _ A14.out).mono ?_
                    rintro e w33 ⟨rfl, hb⟩
                    refine ⟨_, rfl, ?_⟩
                    have n0_ := Aside0.mk (below_step (by repeat (first | (with_reducible first | exact HB.out | apply below_alloc | apply pw_below_drewN | apply below_drew1) | exact HB.out)) hb)
                    clear HB
                    have HB := n0_
                    clear n0_
                    (try clear hb)
                    (try clear hb2)
                    (try clear hk)
                    (try clear hi)
                    refine hK.out _ _ trivial (fun hHeld => ?_)
                    clear hK K
                    refine norm_ (a' := ?_) ?_ ?_
                    rotate_left
                    · show Act.put _ (some 32) _ = _
                      simp only [Act.put, List.setIfInBounds_toArray, List.set_cons_zero, List.set_cons_succ, i64_w, i32_w]
                      rfl
                    refine pure_ (i := 11) (N := some 5) (v := ?_) (a' := ?_) #[true, true, true, true, true, true, true, true, true, true, true, true, false] rfl rfl (any_of HT_.out (by kernel_rfl)) (fun _ _ _ h => h) (Or.inl ⟨by rfl, ?_⟩) ?_ ?_
                    rotate_left
                    · intro w'
                      go_simp
                      with_reducible rfl
                    rotate_left
                    · simp only [Act.put, List.setIfInBounds_toArray, List.set_cons_zero, List.set_cons_succ, i64_w, i32_w]
                      rfl
                    refine pure_ (i := 12) (N := some 6) (v := ?_) (a' := ?_) #[true, true, true, true, true, true, true, true, true, true, true, true, true] rfl rfl (any_of HT_.out (by kernel_rfl)) (fun _ _ _ h => h) (Or.inl ⟨by rfl, ?_⟩) ?_ ?_
                    rotate_left
                    · intro w'
                      go_simp
                      with_reducible rfl
                    rotate_left
                    · simp only [Act.put, List.setIfInBounds_toArray, List.set_cons_zero, List.set_cons_succ, i64_w, i32_w]
                      rfl
                    refine done_ (done_of HT_.out (by kernel_rfl)) ?_
                    try go_wp2
                    go_ret2
                    exact ⟨by first | rfl | (simp [errW_none, errW_some] <;> rfl) | (simp only [← hji4, ← hji6, ← hji9]; first | rfl | (simp [errW_none, errW_some] <;> rfl)) | (simp [*, errW_none, errW_some] <;> rfl), by repeat (first | (with_reducible first | exact HB.out | apply below_alloc | apply pw_below_drewN | apply below_drew1) | exact HB.out)⟩
                  · rw [if_neg c29] at H
                    exact absurd H (by simp)
                · rw [if_neg c28] at H
                  have c28b0 : decide (a0 < 0) = false := decide_eq_false c28
                  clear c28
                  simp only [Option.some.injEq, Prod.mk.injEq] at H
                  obtain ⟨rfl, rfl⟩ := H
                  (try (have hji4u_ : (if a0 < ((-a0)) then ((-a0)) else a0) = ji4 := by (have e_ := hji4_; simp only [wrap64] at e_; omega)))
                  (try (have hji4v_ := hji4u_; simp at hji4v_))
                  (try (have hji6u_ : (if 0 < ((7 - (t393.size : Int))) then ((7 - (t393.size : Int))) else 0) = ji6 := by (have e_ := hji6_; simp only [wrap64] at e_; omega)))
                  (try (have hji6v_ := hji6u_; simp at hji6v_))
                  (try (have hji9n_ := hji9; simp only [ByteArray.size_append, Int.natCast_add] at hji9n_))
                  (try (have hji9m_ := hji9; rw [ByteArray.size_extract, Nat.min_eq_left (by omega), Nat.sub_zero] at hji9m_))
                  (try (have hji9j_ := hji9; simp only [ByteArray.size_append, ByteArray.size_extract, show ∀ z : UInt8, (⟨#[z]⟩ : ByteArray).size = 1 from fun _ => rfl] at hji9j_; (repeat rw [Nat.min_eq_left (by omega)] at hji9j_); (try simp only [Nat.sub_zero] at hji9j_); have hji9f_ := eq_false (Nat.not_lt.2 hji9j_)))
                  (try (have hji9k_ := hji9; simp only [ByteArray.size_append, ByteArray.size_extract, show ∀ z : UInt8, (⟨#[z]⟩ : ByteArray).size = 1 from fun _ => rfl] at hji9k_; (repeat rw [Nat.min_eq_left (by omega)] at hji9k_); (try simp only [Nat.sub_zero] at hji9k_); (try simp at hji9k_)))
                  (try (have c11b1n_ := of_decide_eq_true c11b1; simp only [ByteArray.size_append, Int.natCast_add] at c11b1n_))
                  (try (have c11b1m_ := of_decide_eq_true c11b1; rw [ByteArray.size_extract, Nat.min_eq_left (by omega), Nat.sub_zero] at c11b1m_))
                  (try (have c11b1j_ := of_decide_eq_true c11b1; simp only [ByteArray.size_append, ByteArray.size_extract, show ∀ z : UInt8, (⟨#[z]⟩ : ByteArray).size = 1 from fun _ => rfl] at c11b1j_; (repeat rw [Nat.min_eq_left (by omega)] at c11b1j_); (try simp only [Nat.sub_zero] at c11b1j_); have c11b1f_ := eq_false (Nat.not_lt.2 c11b1j_)))
                  (try (have c11b1k_ := of_decide_eq_true c11b1; simp only [ByteArray.size_append, ByteArray.size_extract, show ∀ z : UInt8, (⟨#[z]⟩ : ByteArray).size = 1 from fun _ => rfl] at c11b1k_; (repeat rw [Nat.min_eq_left (by omega)] at c11b1k_); (try simp only [Nat.sub_zero] at c11b1k_); (try simp at c11b1k_)))
                  (try (have c27b1n_ := of_decide_eq_true c27b1; simp only [ByteArray.size_append, Int.natCast_add] at c27b1n_))
                  (try (have c27b1m_ := of_decide_eq_true c27b1; rw [ByteArray.size_extract, Nat.min_eq_left (by omega), Nat.sub_zero] at c27b1m_))
                  (try (have c27b1j_ := of_decide_eq_true c27b1; simp only [ByteArray.size_append, ByteArray.size_extract, show ∀ z : UInt8, (⟨#[z]⟩ : ByteArray).size = 1 from fun _ => rfl] at c27b1j_; (repeat rw [Nat.min_eq_left (by omega)] at c27b1j_); (try simp only [Nat.sub_zero] at c27b1j_); have c27b1f_ := eq_false (Nat.not_lt.2 c27b1j_)))
                  (try (have c27b1k_ := of_decide_eq_true c27b1; simp only [ByteArray.size_append, ByteArray.size_extract, show ∀ z : UInt8, (⟨#[z]⟩ : ByteArray).size = 1 from fun _ => rfl] at c27b1k_; (repeat rw [Nat.min_eq_left (by omega)] at c27b1k_); (try simp only [Nat.sub_zero] at c27b1k_); (try simp at c27b1k_)))
                  go_enter Tryz.func73, Tryz.ntmps73
                  try go_wp2_with (first | ((with_reducible refine gate_callee (f := 38) rfl ?_); refine goesL_ (some 8) rfl rfl Tryz.func38 (by kernel_rfl) rfl #[.int .i64 a0] rfl (by (try simp only [List.map_toArray, List.map_cons, List.map_nil]); first | done | rfl | (simp only [List.length_drop, List.length_take]; rfl) | (simp only [ByteArray.size_append, Int.natCast_add]; done) | (simp only [ByteArray.size_append, Int.natCast_add]; rfl) | (simp only [Array.mk.injEq, List.cons.injEq, Value.int.injEq, true_and, and_true]; (try simp only [mx, mn, wrap64] at *); omega)) ?_; (with_reducible refine (num_Fits.calls a0 true _ A2.out).mono ?_); rintro e w' ⟨rfl, ⟨nd, rfl⟩⟩; refine ⟨_, rfl, ?_⟩) | ((with_reducible refine gate_callee (f := 84) rfl ?_); refine goesL_ (some 14) rfl rfl Tryz.func84 (by kernel_rfl) rfl #[.int .i64 ji4] rfl (by (try simp only [List.map_toArray, List.map_cons, List.map_nil]); first | done | (simp only [hji4]; rfl) | rfl | (simp only [List.length_drop, List.length_take]; rfl) | (simp only [ByteArray.size_append, Int.natCast_add]; done) | (simp only [ByteArray.size_append, Int.natCast_add]; rfl) | (simp only [Array.mk.injEq, List.cons.injEq, Value.int.injEq, true_and, and_true]; (try simp only [mx, mn, wrap64] at *); omega)) ?_; (with_reducible refine (strconv_Itoa.calls ji4 t393 _ A5.out (LaidAt hL0 (by repeat (first | (with_reducible first | exact HB.out | apply below_alloc | apply pw_below_drewN | apply below_drew1) | exact HB.out)))).mono ?_); rintro e w34 ⟨rfl, hb⟩; refine ⟨_, rfl, ?_⟩; have n0_ := Aside0.mk (below_step (by repeat (first | (with_reducible first | exact HB.out | apply below_alloc | apply pw_below_drewN | apply below_drew1) | exact HB.out)) hb); clear HB; have HB := n0_; clear n0_; (try clear hb); (try clear hb2); (try clear hk); (try clear hi)) | ((with_reducible refine gate_callee (f := 85) rfl ?_); refine goesL_ (some 19) rfl rfl Tryz.func85 (by kernel_rfl) rfl #[.string (⟨#[48]⟩ : ByteArray), .int .i64 ji6] rfl (by (try simp only [List.map_toArray, List.map_cons, List.map_nil]); first | done | (simp only [hji6]; rfl) | rfl | (simp only [List.length_drop, List.length_take]; rfl) | (simp only [ByteArray.size_append, Int.natCast_add]; done) | (simp only [ByteArray.size_append, Int.natCast_add]; rfl) | (simp only [Array.mk.injEq, List.cons.injEq, Value.int.injEq, true_and, and_true]; (try simp only [mx, mn, wrap64] at *); omega)) ?_; (with_reducible refine (strings_Repeat.calls (⟨#[48]⟩ : ByteArray) ji6 t394 _ A7.out).mono ?_); rintro e w35 ⟨rfl, hb⟩; refine ⟨_, rfl, ?_⟩; have n0_ := Aside0.mk (below_step (by repeat (first | (with_reducible first | exact HB.out | apply below_alloc | apply pw_below_drewN | apply below_drew1) | exact HB.out)) hb); clear HB; have HB := n0_; clear n0_; (try clear hb); (try clear hb2); (try clear hk); (try clear hi)))
                  have n0_ := Aside0.mk (below_drew1 HB.out)
                  clear HB
                  have HB := n0_
                  clear n0_
                  refine start_ (n := 13) (S := fun w' => True) (ds := []) #[false, false, false, false, false, false, false, false, false, false, false, false, false] (by kernel_rfl) rfl rfl trivial (fun hHeld => ?_); refine with_tabW num_Print.tab5 num_Print.bits5 (fun HT_ HW_ => ?_)
                  generalize w35.drew = w36 at HB hHeld ⊢
                  refine pure_ (i := 0) (N := some 22) (v := ?_) (a' := ?_) #[true, false, false, false, false, false, false, false, false, false, false, false, false] rfl rfl (any_of HT_.out (by kernel_rfl)) (fun _ _ _ h => h) (Or.inl ⟨by rfl, ?_⟩) ?_ ?_
                  rotate_left
                  · intro w'
                    go_simp
                    with_reducible rfl
                  rotate_left
                  · simp only [Act.put, List.setIfInBounds_toArray, List.set_cons_zero, List.set_cons_succ, i64_w, i32_w]
                    rfl
                  refine pure_ (i := 1) (N := some 23) (v := ?_) (a' := ?_) #[true, true, false, false, false, false, false, false, false, false, false, false, false] rfl rfl (any_of HT_.out (by kernel_rfl)) (fun _ _ _ h => h) (Or.inl ⟨by rfl, ?_⟩) ?_ ?_
                  rotate_left
                  · intro w'
                    go_simp
                    with_reducible rfl
                  rotate_left
                  · simp only [Act.put, List.setIfInBounds_toArray, List.set_cons_zero, List.set_cons_succ, i64_w, i32_w]
                    rfl
                  refine pure_ (i := 2) (N := some 24) (v := ?_) (a' := ?_) #[true, true, true, false, false, false, false, false, false, false, false, false, false] rfl rfl (any_of HT_.out (by kernel_rfl)) (fun _ _ _ h => h) (Or.inl ⟨by rfl, ?_⟩) ?_ ?_
                  rotate_left
                  · intro w'
                    go_simp
                    with_reducible rfl
                  rotate_left
                  · simp only [Act.put, List.setIfInBounds_toArray, List.set_cons_zero, List.set_cons_succ, i64_w, i32_w]
                    rfl
                  refine pure_ (i := 3) (N := some 25) (v := ?_) (a' := ?_) #[true, true, true, true, false, false, false, false, false, false, false, false, false] rfl rfl (any_of HT_.out (by kernel_rfl)) (fun _ _ _ h => h) (Or.inl ⟨by rfl, ?_⟩) ?_ ?_
                  rotate_left
                  · intro w'
                    go_simp
                    with_reducible rfl
                  rotate_left
                  · simp only [Act.put, List.setIfInBounds_toArray, List.set_cons_zero, List.set_cons_succ, i64_w, i32_w]
                    rfl
                  refine pure_ (i := 4) (N := some 26) (v := ?_) (a' := ?_) #[true, true, true, true, true, false, false, false, false, false, false, false, false] rfl rfl (any_of HT_.out (by kernel_rfl)) (fun _ _ _ h => h) (Or.inl ⟨by rfl, ?_⟩) ?_ ?_
                  rotate_left
                  · intro w'
                    go_simp
                    with_reducible rfl
                  rotate_left
                  · simp only [Act.put, List.setIfInBounds_toArray, List.set_cons_zero, List.set_cons_succ, i64_w, i32_w]
                    rfl
                  refine pure_ (i := 5) (N := some 27) (v := ?_) (a' := ?_) #[true, true, true, true, true, true, false, false, false, false, false, false, false] rfl rfl (any_of HT_.out (by kernel_rfl)) (fun _ _ _ h => h) (Or.inl ⟨by rfl, ?_⟩) ?_ ?_
                  rotate_left
                  · intro w'
                    go_simp
                    with_reducible rfl
                  rotate_left
                  · simp only [Act.put, List.setIfInBounds_toArray, List.set_cons_zero, List.set_cons_succ, i64_w, i32_w]
                    rfl
                  refine pure_ (i := 6) (N := some 28) (v := ?_) (a' := ?_) #[true, true, true, true, true, true, true, false, false, false, false, false, false] rfl rfl (any_of HT_.out (by kernel_rfl)) (fun _ _ _ h => h) (Or.inl ⟨by rfl, ?_⟩) ?_ ?_
                  rotate_left
                  · intro w'
                    go_simp
                    with_reducible rfl
                  rotate_left
                  · simp only [Act.put, List.setIfInBounds_toArray, List.set_cons_zero, List.set_cons_succ, i64_w, i32_w]
                    rfl
                  refine pure_ (i := 7) (N := some 29) (v := ?_) (a' := ?_) #[true, true, true, true, true, true, true, true, false, false, false, false, false] rfl rfl (any_of HT_.out (by kernel_rfl)) (fun _ _ _ h => h) (Or.inl ⟨by rfl, ?_⟩) ?_ ?_
                  rotate_left
                  · intro w'
                    go_simp
                    with_reducible rfl
                  rotate_left
                  · simp only [Act.put, List.setIfInBounds_toArray, List.set_cons_zero, List.set_cons_succ, i64_w, i32_w]
                    rfl
                  refine pure_ (i := 8) (N := some 30) (v := ?_) (a' := ?_) #[true, true, true, true, true, true, true, true, true, false, false, false, false] rfl rfl (any_of HT_.out (by kernel_rfl)) (fun _ _ _ h => h) (Or.inl ⟨by rfl, ?_⟩) ?_ ?_
                  rotate_left
                  · intro w'
                    go_simp
                    with_reducible rfl
                  rotate_left
                  · simp only [Act.put, List.setIfInBounds_toArray, List.set_cons_zero, List.set_cons_succ, i64_w, i32_w]
                    rfl
                  refine pure_ (i := 9) (N := some 31) (v := ?_) (a' := ?_) #[true, true, true, true, true, true, true, true, true, true, false, false, false] rfl rfl (any_of HT_.out (by kernel_rfl)) (fun _ _ _ h => h) (Or.inl ⟨by rfl, ?_⟩) ?_ ?_
                  rotate_left
                  · intro w'
                    go_simp
                    with_reducible rfl
                  rotate_left
                  · simp only [Act.put, List.setIfInBounds_toArray, List.set_cons_zero, List.set_cons_succ, i64_w, i32_w]
                    rfl
                  refine one_ (i := 10) (N := some 32) #[true, true, true, true, true, true, true, true, true, true, true, false, false] rfl rfl (one_of HT_.out (by kernel_rfl)) (by decide) (fun K hK => ?_)
                  refine goes_ Tryz.func86 (by kernel_rfl) rfl #[.string ((t394 ++ t393).extract ((ji9) : Int).toNat (t394 ++ t393).size), .string (⟨#[48]⟩ : ByteArray)] (by rfl) rfl rfl (by (try simp only [List.map_toArray, List.map_cons, List.map_nil]); first | done | (simp only [hji9]; rfl) | rfl | (simp only [List.length_drop, List.length_take]; rfl) | (simp only [ByteArray.size_append, Int.natCast_add]; done) | (simp only [ByteArray.size_append, Int.natCast_add]; rfl) | (simp only [Array.mk.injEq, List.cons.injEq, Value.int.injEq, true_and, and_true]; (try simp only [mx, mn, wrap64] at *); omega)) ?_
                  with_reducible refine (strings_TrimRight.calls ((t394 ++ t393).extract ((ji9) : Int).toNat (t394 ++ t393).size) (⟨#[48]⟩ : ByteArray) t395 _ A14.out).mono ?_
                  rintro e w37 ⟨rfl, hb⟩
                  refine ⟨_, rfl, ?_⟩
                  have n0_ := Aside0.mk (below_step (by repeat (first | (with_reducible first | exact HB.out | apply below_alloc | apply pw_below_drewN | apply below_drew1) | exact HB.out)) hb)
                  clear HB
                  have HB := n0_
                  clear n0_
                  (try clear hb)
                  (try clear hb2)
                  (try clear hk)
                  (try clear hi)
                  refine hK.out _ _ trivial (fun hHeld => ?_)
                  clear hK K
                  refine norm_ (a' := ?_) ?_ ?_
                  rotate_left
                  · show Act.put _ (some 32) _ = _
                    simp only [Act.put, List.setIfInBounds_toArray, List.set_cons_zero, List.set_cons_succ, i64_w, i32_w]
                    rfl
                  refine pure_ (i := 11) (N := some 5) (v := ?_) (a' := ?_) #[true, true, true, true, true, true, true, true, true, true, true, true, false] rfl rfl (any_of HT_.out (by kernel_rfl)) (fun _ _ _ h => h) (Or.inl ⟨by rfl, ?_⟩) ?_ ?_
                  rotate_left
                  · intro w'
                    go_simp
                    with_reducible rfl
                  rotate_left
                  · simp only [Act.put, List.setIfInBounds_toArray, List.set_cons_zero, List.set_cons_succ, i64_w, i32_w]
                    rfl
                  refine pure_ (i := 12) (N := some 6) (v := ?_) (a' := ?_) #[true, true, true, true, true, true, true, true, true, true, true, true, true] rfl rfl (any_of HT_.out (by kernel_rfl)) (fun _ _ _ h => h) (Or.inl ⟨by rfl, ?_⟩) ?_ ?_
                  rotate_left
                  · intro w'
                    go_simp
                    with_reducible rfl
                  rotate_left
                  · simp only [Act.put, List.setIfInBounds_toArray, List.set_cons_zero, List.set_cons_succ, i64_w, i32_w]
                    rfl
                  refine done_ (done_of HT_.out (by kernel_rfl)) ?_
                  try go_wp2
                  go_ret2
                  exact ⟨by first | rfl | (simp [errW_none, errW_some] <;> rfl) | (simp only [← hji4, ← hji6, ← hji9]; first | rfl | (simp [errW_none, errW_some] <;> rfl)) | (simp [*, errW_none, errW_some] <;> rfl), by repeat (first | (with_reducible first | exact HB.out | apply below_alloc | apply pw_below_drewN | apply below_drew1) | exact HB.out)⟩
              · rw [if_neg c27] at H
                exact absurd H (by simp)
            · rw [if_neg c26] at H
              exact absurd H (by simp)
        · rw [if_neg c11] at H
          exact absurd H (by simp)
      · rw [if_neg c10] at H
        exact absurd H (by simp)
    · rw [if_neg c8] at H
      exact absurd H (by simp)
  · replace c3 := Bool.eq_false_iff.mpr c3
    subst c3
    have H1 : (some ((⟨#[]⟩ : ByteArray), 2)) = some (r1, r2) := by rw [if_neg (show ¬ (false = true) by decide)] at H; exact H
    clear H
    have H := H1
    clear H1
    simp only [Option.some.injEq, Prod.mk.injEq] at H
    obtain ⟨rfl, rfl⟩ := H
    go_enter Tryz.func73, Tryz.ntmps73
    go_wp2_with (first | ((with_reducible refine gate_callee (f := 38) rfl ?_); refine goesL_ (some 8) rfl rfl Tryz.func38 (by kernel_rfl) rfl #[.int .i64 a0] rfl (by (try simp only [List.map_toArray, List.map_cons, List.map_nil]); first | done | rfl | (simp only [List.length_drop, List.length_take]; rfl) | (simp only [ByteArray.size_append, Int.natCast_add]; done) | (simp only [ByteArray.size_append, Int.natCast_add]; rfl) | (simp only [Array.mk.injEq, List.cons.injEq, Value.int.injEq, true_and, and_true]; (try simp only [mx, mn, wrap64] at *); omega)) ?_; (with_reducible refine (num_Fits.calls a0 false _ A2.out).mono ?_); rintro e w' ⟨rfl, ⟨nd, rfl⟩⟩; refine ⟨_, rfl, ?_⟩))
    go_ret2
    exact ⟨by first | rfl | (simp [errW_none, errW_some] <;> rfl) | (simp [*, errW_none, errW_some] <;> rfl), by repeat (first | (with_reducible first | exact HB.out | apply below_alloc | apply pw_below_drewN | apply below_drew1) | exact HB.out)⟩
def value_Words.f (a0_0 : Int) (a0_1 : Int) (a0_2 : ByteArray) (a0_3 : Bool) (a0_4 : Int) : Option (ByteArray × Int) := (value_code.f a0_0 a0_1 a0_2 a0_3 a0_4).bind fun t397 => (if t397 = 0 then (if a0_0 = 1 then ((num_Print.f a0_1).bind fun bt398 => (some (bt398.1, 0))) else (if a0_0 = 3 then (if a0_3 = true then (some ((⟨#[84, 82, 85, 69]⟩ : ByteArray), 0)) else (some ((⟨#[70, 65, 76, 83, 69]⟩ : ByteArray), 0))) else (some (a0_2, 0)))) else (some ((⟨#[]⟩ : ByteArray), t397)))
set_option maxHeartbeats 8000000 in
set_option maxRecDepth 100000 in
theorem value_Words.calls (a0_0 : Int) (a0_1 : Int) (a0_2 : ByteArray) (a0_3 : Bool) (a0_4 : Int) (r1 : ByteArray) (r2 : Int) (w : World) (h : value_Words.f a0_0 a0_1 a0_2 a0_3 a0_4 = some (r1, r2)) (hL0 : Aside0 (LaidW w)) :
    Calls Tryz.prog 59 #[.agg #[.int .i64 a0_0, .int .i64 a0_1, .string a0_2, .bool a0_3, .int .i64 a0_4]] w fun e w' => e = .returned (.tuple #[.string r1, .int .i64 r2]) ∧ Below w.heap.size w w' := by
  have hu25 := Tryz.underlying25
  have HB := Aside0.mk (Below.refl w.heap.size w)
  have H : ((value_code.f a0_0 a0_1 a0_2 a0_3 a0_4).bind fun t397 => (if t397 = 0 then (if a0_0 = 1 then ((num_Print.f a0_1).bind fun bt398 => (some (bt398.1, 0))) else (if a0_0 = 3 then (if a0_3 = true then (some ((⟨#[84, 82, 85, 69]⟩ : ByteArray), 0)) else (some ((⟨#[70, 65, 76, 83, 69]⟩ : ByteArray), 0))) else (some (a0_2, 0)))) else (some ((⟨#[]⟩ : ByteArray), t397)))) = some (r1, r2) := h
  clear h
  replace H := Option.bind_eq_some_iff.mp H
  obtain ⟨t397, A20, H⟩ := H
  replace H : (if t397 = 0 then (if a0_0 = 1 then ((num_Print.f a0_1).bind fun bt398 => (some (bt398.1, 0))) else (if a0_0 = 3 then (if a0_3 = true then (some ((⟨#[84, 82, 85, 69]⟩ : ByteArray), 0)) else (some ((⟨#[70, 65, 76, 83, 69]⟩ : ByteArray), 0))) else (some (a0_2, 0)))) else (some ((⟨#[]⟩ : ByteArray), t397))) = some (r1, r2) := H
  have A2 := Aside0.mk A20
  clear A20
  by_cases c3 : t397 = 0
  · rw [if_pos c3] at H
    have c3b0 : (t397 == 0) = true := beq_iff_eq.mpr c3
    have c3b1 : (t397 != 0) = false := bne_eq_false_iff_eq.mpr c3
    clear c3
    by_cases c4 : a0_0 = 1
    · rw [if_pos c4] at H
      have c4b0 : (a0_0 == 1) = true := beq_iff_eq.mpr c4
      have c4b1 : (a0_0 != 1) = false := bne_eq_false_iff_eq.mpr c4
      clear c4
      replace H := Option.bind_eq_some_iff.mp H
      obtain ⟨⟨t398, t399⟩, A50, H⟩ := H
      replace H : (some (t398, 0)) = some (r1, r2) := H
      have A5 := Aside0.mk A50
      clear A50
      simp only [Option.some.injEq, Prod.mk.injEq] at H
      obtain ⟨rfl, rfl⟩ := H
      go_enter Tryz.func59, Tryz.ntmps59
      go_wp2_with (first | ((with_reducible refine gate_dst (N := 1) rfl ?_); refine box_event ?hg (N := 1) ?hd (cs := #[.int .i64 a0_0, .int .i64 a0_1, .string a0_2, .bool a0_3, .int .i64 a0_4]) (t := 25) ?hr ?_; (case hd => rfl); (case hg => rfl); (case hr => first | (go_simp; done) | (go_simp; rfl)); intro gb396 hg w6 hbox hb; have n0_ := Aside0.mk (below_step (by repeat (first | (with_reducible first | exact HB.out | apply below_alloc | apply pw_below_drewN | apply below_drew1) | exact HB.out)) hb); have n1_ := Aside0.mk (hbox); have n2_ := Aside0.mk ((by rw [hg]; exact (below_size (by repeat (first | (with_reducible first | exact HB.out | apply below_alloc | apply pw_below_drewN | apply below_drew1) | exact HB.out))) : w.heap.size ≤ gb396)); have n3_ := Aside0.mk ((by rw [hg]; exact (below_size (by repeat (first | (with_reducible first | exact HB.out | apply below_alloc | apply pw_below_drewN | apply below_drew1) | exact HB.out))) : w.heap.size ≤ gb396)); clear HB; have HB := n0_; have BK396 := n1_; have GW396 := n2_; have GE396 := n3_; clear n0_ n1_ n2_ n3_; clear hb hbox hg; have hcz7_0 : w6.cell? ⟨gb396, 0, none⟩ = some (.int .i64 a0_0) := (blk_cell BK396.out 0).trans rfl; have hcz7_1 : w6.cell? ⟨gb396, 1, none⟩ = some (.int .i64 a0_1) := (blk_cell BK396.out 1).trans rfl; have hcz7_2 : w6.cell? ⟨gb396, 2, none⟩ = some (.string a0_2) := (blk_cell BK396.out 2).trans rfl; have hcz7_3 : w6.cell? ⟨gb396, 3, none⟩ = some (.bool a0_3) := (blk_cell BK396.out 3).trans rfl; have hcz7_4 : w6.cell? ⟨gb396, 4, none⟩ = some (.int .i64 a0_4) := (blk_cell BK396.out 4).trans rfl; have hfz7_0 := blk_frozen BK396.out 0; have hfz7_1 := blk_frozen BK396.out 1; have hfz7_2 := blk_frozen BK396.out 2; have hfz7_3 := blk_frozen BK396.out 3; have hfz7_4 := blk_frozen BK396.out 4) | ((with_reducible refine gate_callee (f := 72) rfl ?_); refine goesL_ (some 8) rfl rfl Tryz.func72 (by kernel_rfl) rfl #[.agg #[.int .i64 a0_0, .int .i64 a0_1, .string a0_2, .bool a0_3, .int .i64 a0_4]] rfl (by (try simp only [List.map_toArray, List.map_cons, List.map_nil]); first | done | rfl | (simp only [List.length_drop, List.length_take]; rfl) | (simp only [ByteArray.size_append, Int.natCast_add]; done) | (simp only [ByteArray.size_append, Int.natCast_add]; rfl) | (simp only [Array.mk.injEq, List.cons.injEq, Value.int.injEq, true_and, and_true]; (try simp only [mx, mn, wrap64] at *); omega)) ?_; (with_reducible refine (value_code.calls a0_0 a0_1 a0_2 a0_3 a0_4 t397 _ A2.out).mono ?_); rintro e w8 ⟨rfl, hb⟩; refine ⟨_, rfl, ?_⟩; have n0_ := Aside0.mk (blk_below (g := gb396) (o := .cells #[.int .i64 a0_0, .int .i64 a0_1, .string a0_2, .bool a0_3, .int .i64 a0_4] 25 (0, 0)) (by (with_reducible repeat (first | refine blk_drewN ?_ _ | refine blk_drew ?_ | refine blk_alloc ?_ _)); exact BK396.out) hb); have n1_ := Aside0.mk (below_step (by repeat (first | (with_reducible first | exact HB.out | apply below_alloc | apply pw_below_drewN | apply below_drew1 | refine below_set ?_ GE396.out) | exact HB.out)) hb); clear BK396; clear HB; have BK396 := n0_; have HB := n1_; clear n0_ n1_; (try clear hb); (try clear hb2); (try clear hk); (try clear hi); have hcz9_0 : w8.cell? ⟨gb396, 0, none⟩ = some (.int .i64 a0_0) := (blk_cell BK396.out 0).trans rfl; have hcz9_1 : w8.cell? ⟨gb396, 1, none⟩ = some (.int .i64 a0_1) := (blk_cell BK396.out 1).trans rfl; have hcz9_2 : w8.cell? ⟨gb396, 2, none⟩ = some (.string a0_2) := (blk_cell BK396.out 2).trans rfl; have hcz9_3 : w8.cell? ⟨gb396, 3, none⟩ = some (.bool a0_3) := (blk_cell BK396.out 3).trans rfl; have hcz9_4 : w8.cell? ⟨gb396, 4, none⟩ = some (.int .i64 a0_4) := (blk_cell BK396.out 4).trans rfl; have hfz9_0 := blk_frozen BK396.out 0; have hfz9_1 := blk_frozen BK396.out 1; have hfz9_2 := blk_frozen BK396.out 2; have hfz9_3 := blk_frozen BK396.out 3; have hfz9_4 := blk_frozen BK396.out 4) | ((with_reducible refine gate_callee (f := 73) rfl ?_); refine goesL_ (some 19) rfl rfl Tryz.func73 (by kernel_rfl) rfl #[.int .i64 a0_1] rfl (by (try simp only [List.map_toArray, List.map_cons, List.map_nil]); first | done | rfl | (simp only [List.length_drop, List.length_take]; rfl) | (simp only [ByteArray.size_append, Int.natCast_add]; done) | (simp only [ByteArray.size_append, Int.natCast_add]; rfl) | (simp only [Array.mk.injEq, List.cons.injEq, Value.int.injEq, true_and, and_true]; (try simp only [mx, mn, wrap64] at *); omega)) ?_; (with_reducible refine (num_Print.calls a0_1 t398 t399 _ A5.out (LaidAt hL0 (by repeat (first | (with_reducible first | exact HB.out | apply below_alloc | apply pw_below_drewN | apply below_drew1 | refine below_set ?_ GE396.out) | exact HB.out)))).mono ?_); rintro e w10 ⟨rfl, hb⟩; refine ⟨_, rfl, ?_⟩; have n0_ := Aside0.mk (blk_below (g := gb396) (o := .cells #[.int .i64 a0_0, .int .i64 a0_1, .string a0_2, .bool a0_3, .int .i64 a0_4] 25 (0, 0)) (by (with_reducible repeat (first | refine blk_drewN ?_ _ | refine blk_drew ?_ | refine blk_alloc ?_ _)); exact BK396.out) hb); have n1_ := Aside0.mk (below_step (by repeat (first | (with_reducible first | exact HB.out | apply below_alloc | apply pw_below_drewN | apply below_drew1 | refine below_set ?_ GE396.out) | exact HB.out)) hb); clear BK396; clear HB; have BK396 := n0_; have HB := n1_; clear n0_ n1_; (try clear hb); (try clear hb2); (try clear hk); (try clear hi)))
      go_ret2
      exact ⟨by first | rfl | (simp [errW_none, errW_some] <;> rfl) | (simp [*, errW_none, errW_some] <;> rfl), by repeat (first | (with_reducible first | exact HB.out | apply below_alloc | apply pw_below_drewN | apply below_drew1 | refine below_set ?_ GE396.out) | exact HB.out)⟩
    · rw [if_neg c4] at H
      have c4b0 : (a0_0 == 1) = false := beq_eq_false_iff_ne.mpr c4
      have c4b1 : (a0_0 != 1) = true := bne_iff_ne.mpr c4
      by_cases c11 : a0_0 = 3
      · rw [if_pos c11] at H
        have c11b0 : (a0_0 == 3) = true := beq_iff_eq.mpr c11
        have c11b1 : (a0_0 != 3) = false := bne_eq_false_iff_eq.mpr c11
        clear c11
        by_cases c12 : a0_3 = true
        · subst c12
          have H1 : (some ((⟨#[84, 82, 85, 69]⟩ : ByteArray), 0)) = some (r1, r2) := by rw [if_pos rfl] at H; exact H
          clear H
          have H := H1
          clear H1
          simp only [Option.some.injEq, Prod.mk.injEq] at H
          obtain ⟨rfl, rfl⟩ := H
          go_enter Tryz.func59, Tryz.ntmps59
          go_wp2_with (first | ((with_reducible refine gate_dst (N := 1) rfl ?_); refine box_event ?hg (N := 1) ?hd (cs := #[.int .i64 a0_0, .int .i64 a0_1, .string a0_2, .bool true, .int .i64 a0_4]) (t := 25) ?hr ?_; (case hd => rfl); (case hg => rfl); (case hr => first | (go_simp; done) | (go_simp; rfl)); intro gb396 hg w13 hbox hb; have n0_ := Aside0.mk (below_step (by repeat (first | (with_reducible first | exact HB.out | apply below_alloc | apply pw_below_drewN | apply below_drew1) | exact HB.out)) hb); have n1_ := Aside0.mk (hbox); have n2_ := Aside0.mk ((by rw [hg]; exact (below_size (by repeat (first | (with_reducible first | exact HB.out | apply below_alloc | apply pw_below_drewN | apply below_drew1) | exact HB.out))) : w.heap.size ≤ gb396)); have n3_ := Aside0.mk ((by rw [hg]; exact (below_size (by repeat (first | (with_reducible first | exact HB.out | apply below_alloc | apply pw_below_drewN | apply below_drew1) | exact HB.out))) : w.heap.size ≤ gb396)); clear HB; have HB := n0_; have BK396 := n1_; have GW396 := n2_; have GE396 := n3_; clear n0_ n1_ n2_ n3_; clear hb hbox hg; have hcz14_0 : w13.cell? ⟨gb396, 0, none⟩ = some (.int .i64 a0_0) := (blk_cell BK396.out 0).trans rfl; have hcz14_1 : w13.cell? ⟨gb396, 1, none⟩ = some (.int .i64 a0_1) := (blk_cell BK396.out 1).trans rfl; have hcz14_2 : w13.cell? ⟨gb396, 2, none⟩ = some (.string a0_2) := (blk_cell BK396.out 2).trans rfl; have hcz14_3 : w13.cell? ⟨gb396, 3, none⟩ = some (.bool true) := (blk_cell BK396.out 3).trans rfl; have hcz14_4 : w13.cell? ⟨gb396, 4, none⟩ = some (.int .i64 a0_4) := (blk_cell BK396.out 4).trans rfl; have hfz14_0 := blk_frozen BK396.out 0; have hfz14_1 := blk_frozen BK396.out 1; have hfz14_2 := blk_frozen BK396.out 2; have hfz14_3 := blk_frozen BK396.out 3; have hfz14_4 := blk_frozen BK396.out 4) | ((with_reducible refine gate_callee (f := 72) rfl ?_); refine goesL_ (some 8) rfl rfl Tryz.func72 (by kernel_rfl) rfl #[.agg #[.int .i64 a0_0, .int .i64 a0_1, .string a0_2, .bool true, .int .i64 a0_4]] rfl (by (try simp only [List.map_toArray, List.map_cons, List.map_nil]); first | done | rfl | (simp only [List.length_drop, List.length_take]; rfl) | (simp only [ByteArray.size_append, Int.natCast_add]; done) | (simp only [ByteArray.size_append, Int.natCast_add]; rfl) | (simp only [Array.mk.injEq, List.cons.injEq, Value.int.injEq, true_and, and_true]; (try simp only [mx, mn, wrap64] at *); omega)) ?_; (with_reducible refine (value_code.calls a0_0 a0_1 a0_2 true a0_4 t397 _ A2.out).mono ?_); rintro e w15 ⟨rfl, hb⟩; refine ⟨_, rfl, ?_⟩; have n0_ := Aside0.mk (blk_below (g := gb396) (o := .cells #[.int .i64 a0_0, .int .i64 a0_1, .string a0_2, .bool true, .int .i64 a0_4] 25 (0, 0)) (by (with_reducible repeat (first | refine blk_drewN ?_ _ | refine blk_drew ?_ | refine blk_alloc ?_ _)); exact BK396.out) hb); have n1_ := Aside0.mk (below_step (by repeat (first | (with_reducible first | exact HB.out | apply below_alloc | apply pw_below_drewN | apply below_drew1 | refine below_set ?_ GE396.out) | exact HB.out)) hb); clear BK396; clear HB; have BK396 := n0_; have HB := n1_; clear n0_ n1_; (try clear hb); (try clear hb2); (try clear hk); (try clear hi); have hcz16_0 : w15.cell? ⟨gb396, 0, none⟩ = some (.int .i64 a0_0) := (blk_cell BK396.out 0).trans rfl; have hcz16_1 : w15.cell? ⟨gb396, 1, none⟩ = some (.int .i64 a0_1) := (blk_cell BK396.out 1).trans rfl; have hcz16_2 : w15.cell? ⟨gb396, 2, none⟩ = some (.string a0_2) := (blk_cell BK396.out 2).trans rfl; have hcz16_3 : w15.cell? ⟨gb396, 3, none⟩ = some (.bool true) := (blk_cell BK396.out 3).trans rfl; have hcz16_4 : w15.cell? ⟨gb396, 4, none⟩ = some (.int .i64 a0_4) := (blk_cell BK396.out 4).trans rfl; have hfz16_0 := blk_frozen BK396.out 0; have hfz16_1 := blk_frozen BK396.out 1; have hfz16_2 := blk_frozen BK396.out 2; have hfz16_3 := blk_frozen BK396.out 3; have hfz16_4 := blk_frozen BK396.out 4))
          go_ret2
          exact ⟨by first | rfl | (simp [errW_none, errW_some] <;> rfl) | (simp [*, errW_none, errW_some] <;> rfl), by repeat (first | (with_reducible first | exact HB.out | apply below_alloc | apply pw_below_drewN | apply below_drew1 | refine below_set ?_ GE396.out) | exact HB.out)⟩
        · replace c12 := Bool.eq_false_iff.mpr c12
          subst c12
          have H1 : (some ((⟨#[70, 65, 76, 83, 69]⟩ : ByteArray), 0)) = some (r1, r2) := by rw [if_neg (show ¬ (false = true) by decide)] at H; exact H
          clear H
          have H := H1
          clear H1
          simp only [Option.some.injEq, Prod.mk.injEq] at H
          obtain ⟨rfl, rfl⟩ := H
          go_enter Tryz.func59, Tryz.ntmps59
          go_wp2_with (first | ((with_reducible refine gate_dst (N := 1) rfl ?_); refine box_event ?hg (N := 1) ?hd (cs := #[.int .i64 a0_0, .int .i64 a0_1, .string a0_2, .bool false, .int .i64 a0_4]) (t := 25) ?hr ?_; (case hd => rfl); (case hg => rfl); (case hr => first | (go_simp; done) | (go_simp; rfl)); intro gb396 hg w17 hbox hb; have n0_ := Aside0.mk (below_step (by repeat (first | (with_reducible first | exact HB.out | apply below_alloc | apply pw_below_drewN | apply below_drew1) | exact HB.out)) hb); have n1_ := Aside0.mk (hbox); have n2_ := Aside0.mk ((by rw [hg]; exact (below_size (by repeat (first | (with_reducible first | exact HB.out | apply below_alloc | apply pw_below_drewN | apply below_drew1) | exact HB.out))) : w.heap.size ≤ gb396)); have n3_ := Aside0.mk ((by rw [hg]; exact (below_size (by repeat (first | (with_reducible first | exact HB.out | apply below_alloc | apply pw_below_drewN | apply below_drew1) | exact HB.out))) : w.heap.size ≤ gb396)); clear HB; have HB := n0_; have BK396 := n1_; have GW396 := n2_; have GE396 := n3_; clear n0_ n1_ n2_ n3_; clear hb hbox hg; have hcz18_0 : w17.cell? ⟨gb396, 0, none⟩ = some (.int .i64 a0_0) := (blk_cell BK396.out 0).trans rfl; have hcz18_1 : w17.cell? ⟨gb396, 1, none⟩ = some (.int .i64 a0_1) := (blk_cell BK396.out 1).trans rfl; have hcz18_2 : w17.cell? ⟨gb396, 2, none⟩ = some (.string a0_2) := (blk_cell BK396.out 2).trans rfl; have hcz18_3 : w17.cell? ⟨gb396, 3, none⟩ = some (.bool false) := (blk_cell BK396.out 3).trans rfl; have hcz18_4 : w17.cell? ⟨gb396, 4, none⟩ = some (.int .i64 a0_4) := (blk_cell BK396.out 4).trans rfl; have hfz18_0 := blk_frozen BK396.out 0; have hfz18_1 := blk_frozen BK396.out 1; have hfz18_2 := blk_frozen BK396.out 2; have hfz18_3 := blk_frozen BK396.out 3; have hfz18_4 := blk_frozen BK396.out 4) | ((with_reducible refine gate_callee (f := 72) rfl ?_); refine goesL_ (some 8) rfl rfl Tryz.func72 (by kernel_rfl) rfl #[.agg #[.int .i64 a0_0, .int .i64 a0_1, .string a0_2, .bool false, .int .i64 a0_4]] rfl (by (try simp only [List.map_toArray, List.map_cons, List.map_nil]); first | done | rfl | (simp only [List.length_drop, List.length_take]; rfl) | (simp only [ByteArray.size_append, Int.natCast_add]; done) | (simp only [ByteArray.size_append, Int.natCast_add]; rfl) | (simp only [Array.mk.injEq, List.cons.injEq, Value.int.injEq, true_and, and_true]; (try simp only [mx, mn, wrap64] at *); omega)) ?_; (with_reducible refine (value_code.calls a0_0 a0_1 a0_2 false a0_4 t397 _ A2.out).mono ?_); rintro e w19 ⟨rfl, hb⟩; refine ⟨_, rfl, ?_⟩; have n0_ := Aside0.mk (blk_below (g := gb396) (o := .cells #[.int .i64 a0_0, .int .i64 a0_1, .string a0_2, .bool false, .int .i64 a0_4] 25 (0, 0)) (by (with_reducible repeat (first | refine blk_drewN ?_ _ | refine blk_drew ?_ | refine blk_alloc ?_ _)); exact BK396.out) hb); have n1_ := Aside0.mk (below_step (by repeat (first | (with_reducible first | exact HB.out | apply below_alloc | apply pw_below_drewN | apply below_drew1 | refine below_set ?_ GE396.out) | exact HB.out)) hb); clear BK396; clear HB; have BK396 := n0_; have HB := n1_; clear n0_ n1_; (try clear hb); (try clear hb2); (try clear hk); (try clear hi); have hcz20_0 : w19.cell? ⟨gb396, 0, none⟩ = some (.int .i64 a0_0) := (blk_cell BK396.out 0).trans rfl; have hcz20_1 : w19.cell? ⟨gb396, 1, none⟩ = some (.int .i64 a0_1) := (blk_cell BK396.out 1).trans rfl; have hcz20_2 : w19.cell? ⟨gb396, 2, none⟩ = some (.string a0_2) := (blk_cell BK396.out 2).trans rfl; have hcz20_3 : w19.cell? ⟨gb396, 3, none⟩ = some (.bool false) := (blk_cell BK396.out 3).trans rfl; have hcz20_4 : w19.cell? ⟨gb396, 4, none⟩ = some (.int .i64 a0_4) := (blk_cell BK396.out 4).trans rfl; have hfz20_0 := blk_frozen BK396.out 0; have hfz20_1 := blk_frozen BK396.out 1; have hfz20_2 := blk_frozen BK396.out 2; have hfz20_3 := blk_frozen BK396.out 3; have hfz20_4 := blk_frozen BK396.out 4))
          go_ret2
          exact ⟨by first | rfl | (simp [errW_none, errW_some] <;> rfl) | (simp [*, errW_none, errW_some] <;> rfl), by repeat (first | (with_reducible first | exact HB.out | apply below_alloc | apply pw_below_drewN | apply below_drew1 | refine below_set ?_ GE396.out) | exact HB.out)⟩
      · rw [if_neg c11] at H
        have c11b0 : (a0_0 == 3) = false := beq_eq_false_iff_ne.mpr c11
        have c11b1 : (a0_0 != 3) = true := bne_iff_ne.mpr c11
        simp only [Option.some.injEq, Prod.mk.injEq] at H
        obtain ⟨rfl, rfl⟩ := H
        go_enter Tryz.func59, Tryz.ntmps59
        go_wp2_with (first | ((with_reducible refine gate_dst (N := 1) rfl ?_); refine box_event ?hg (N := 1) ?hd (cs := #[.int .i64 a0_0, .int .i64 a0_1, .string a0_2, .bool a0_3, .int .i64 a0_4]) (t := 25) ?hr ?_; (case hd => rfl); (case hg => rfl); (case hr => first | (go_simp; done) | (go_simp; rfl)); intro gb396 hg w21 hbox hb; have n0_ := Aside0.mk (below_step (by repeat (first | (with_reducible first | exact HB.out | apply below_alloc | apply pw_below_drewN | apply below_drew1) | exact HB.out)) hb); have n1_ := Aside0.mk (hbox); have n2_ := Aside0.mk ((by rw [hg]; exact (below_size (by repeat (first | (with_reducible first | exact HB.out | apply below_alloc | apply pw_below_drewN | apply below_drew1) | exact HB.out))) : w.heap.size ≤ gb396)); have n3_ := Aside0.mk ((by rw [hg]; exact (below_size (by repeat (first | (with_reducible first | exact HB.out | apply below_alloc | apply pw_below_drewN | apply below_drew1) | exact HB.out))) : w.heap.size ≤ gb396)); clear HB; have HB := n0_; have BK396 := n1_; have GW396 := n2_; have GE396 := n3_; clear n0_ n1_ n2_ n3_; clear hb hbox hg; have hcz22_0 : w21.cell? ⟨gb396, 0, none⟩ = some (.int .i64 a0_0) := (blk_cell BK396.out 0).trans rfl; have hcz22_1 : w21.cell? ⟨gb396, 1, none⟩ = some (.int .i64 a0_1) := (blk_cell BK396.out 1).trans rfl; have hcz22_2 : w21.cell? ⟨gb396, 2, none⟩ = some (.string a0_2) := (blk_cell BK396.out 2).trans rfl; have hcz22_3 : w21.cell? ⟨gb396, 3, none⟩ = some (.bool a0_3) := (blk_cell BK396.out 3).trans rfl; have hcz22_4 : w21.cell? ⟨gb396, 4, none⟩ = some (.int .i64 a0_4) := (blk_cell BK396.out 4).trans rfl; have hfz22_0 := blk_frozen BK396.out 0; have hfz22_1 := blk_frozen BK396.out 1; have hfz22_2 := blk_frozen BK396.out 2; have hfz22_3 := blk_frozen BK396.out 3; have hfz22_4 := blk_frozen BK396.out 4) | ((with_reducible refine gate_callee (f := 72) rfl ?_); refine goesL_ (some 8) rfl rfl Tryz.func72 (by kernel_rfl) rfl #[.agg #[.int .i64 a0_0, .int .i64 a0_1, .string a0_2, .bool a0_3, .int .i64 a0_4]] rfl (by (try simp only [List.map_toArray, List.map_cons, List.map_nil]); first | done | rfl | (simp only [List.length_drop, List.length_take]; rfl) | (simp only [ByteArray.size_append, Int.natCast_add]; done) | (simp only [ByteArray.size_append, Int.natCast_add]; rfl) | (simp only [Array.mk.injEq, List.cons.injEq, Value.int.injEq, true_and, and_true]; (try simp only [mx, mn, wrap64] at *); omega)) ?_; (with_reducible refine (value_code.calls a0_0 a0_1 a0_2 a0_3 a0_4 t397 _ A2.out).mono ?_); rintro e w23 ⟨rfl, hb⟩; refine ⟨_, rfl, ?_⟩; have n0_ := Aside0.mk (blk_below (g := gb396) (o := .cells #[.int .i64 a0_0, .int .i64 a0_1, .string a0_2, .bool a0_3, .int .i64 a0_4] 25 (0, 0)) (by (with_reducible repeat (first | refine blk_drewN ?_ _ | refine blk_drew ?_ | refine blk_alloc ?_ _)); exact BK396.out) hb); have n1_ := Aside0.mk (below_step (by repeat (first | (with_reducible first | exact HB.out | apply below_alloc | apply pw_below_drewN | apply below_drew1 | refine below_set ?_ GE396.out) | exact HB.out)) hb); clear BK396; clear HB; have BK396 := n0_; have HB := n1_; clear n0_ n1_; (try clear hb); (try clear hb2); (try clear hk); (try clear hi); have hcz24_0 : w23.cell? ⟨gb396, 0, none⟩ = some (.int .i64 a0_0) := (blk_cell BK396.out 0).trans rfl; have hcz24_1 : w23.cell? ⟨gb396, 1, none⟩ = some (.int .i64 a0_1) := (blk_cell BK396.out 1).trans rfl; have hcz24_2 : w23.cell? ⟨gb396, 2, none⟩ = some (.string a0_2) := (blk_cell BK396.out 2).trans rfl; have hcz24_3 : w23.cell? ⟨gb396, 3, none⟩ = some (.bool a0_3) := (blk_cell BK396.out 3).trans rfl; have hcz24_4 : w23.cell? ⟨gb396, 4, none⟩ = some (.int .i64 a0_4) := (blk_cell BK396.out 4).trans rfl; have hfz24_0 := blk_frozen BK396.out 0; have hfz24_1 := blk_frozen BK396.out 1; have hfz24_2 := blk_frozen BK396.out 2; have hfz24_3 := blk_frozen BK396.out 3; have hfz24_4 := blk_frozen BK396.out 4))
        go_ret2
        exact ⟨by first | rfl | (simp [errW_none, errW_some] <;> rfl) | (simp [*, errW_none, errW_some] <;> rfl), by repeat (first | (with_reducible first | exact HB.out | apply below_alloc | apply pw_below_drewN | apply below_drew1 | refine below_set ?_ GE396.out) | exact HB.out)⟩
  · rw [if_neg c3] at H
    have c3b0 : (t397 == 0) = false := beq_eq_false_iff_ne.mpr c3
    have c3b1 : (t397 != 0) = true := bne_iff_ne.mpr c3
    simp only [Option.some.injEq, Prod.mk.injEq] at H
    obtain ⟨rfl, rfl⟩ := H
    go_enter Tryz.func59, Tryz.ntmps59
    go_wp2_with (first | ((with_reducible refine gate_dst (N := 1) rfl ?_); refine box_event ?hg (N := 1) ?hd (cs := #[.int .i64 a0_0, .int .i64 a0_1, .string a0_2, .bool a0_3, .int .i64 a0_4]) (t := 25) ?hr ?_; (case hd => rfl); (case hg => rfl); (case hr => first | (go_simp; done) | (go_simp; rfl)); intro gb396 hg w25 hbox hb; have n0_ := Aside0.mk (below_step (by repeat (first | (with_reducible first | exact HB.out | apply below_alloc | apply pw_below_drewN | apply below_drew1) | exact HB.out)) hb); have n1_ := Aside0.mk (hbox); have n2_ := Aside0.mk ((by rw [hg]; exact (below_size (by repeat (first | (with_reducible first | exact HB.out | apply below_alloc | apply pw_below_drewN | apply below_drew1) | exact HB.out))) : w.heap.size ≤ gb396)); have n3_ := Aside0.mk ((by rw [hg]; exact (below_size (by repeat (first | (with_reducible first | exact HB.out | apply below_alloc | apply pw_below_drewN | apply below_drew1) | exact HB.out))) : w.heap.size ≤ gb396)); clear HB; have HB := n0_; have BK396 := n1_; have GW396 := n2_; have GE396 := n3_; clear n0_ n1_ n2_ n3_; clear hb hbox hg; have hcz26_0 : w25.cell? ⟨gb396, 0, none⟩ = some (.int .i64 a0_0) := (blk_cell BK396.out 0).trans rfl; have hcz26_1 : w25.cell? ⟨gb396, 1, none⟩ = some (.int .i64 a0_1) := (blk_cell BK396.out 1).trans rfl; have hcz26_2 : w25.cell? ⟨gb396, 2, none⟩ = some (.string a0_2) := (blk_cell BK396.out 2).trans rfl; have hcz26_3 : w25.cell? ⟨gb396, 3, none⟩ = some (.bool a0_3) := (blk_cell BK396.out 3).trans rfl; have hcz26_4 : w25.cell? ⟨gb396, 4, none⟩ = some (.int .i64 a0_4) := (blk_cell BK396.out 4).trans rfl; have hfz26_0 := blk_frozen BK396.out 0; have hfz26_1 := blk_frozen BK396.out 1; have hfz26_2 := blk_frozen BK396.out 2; have hfz26_3 := blk_frozen BK396.out 3; have hfz26_4 := blk_frozen BK396.out 4) | ((with_reducible refine gate_callee (f := 72) rfl ?_); refine goesL_ (some 8) rfl rfl Tryz.func72 (by kernel_rfl) rfl #[.agg #[.int .i64 a0_0, .int .i64 a0_1, .string a0_2, .bool a0_3, .int .i64 a0_4]] rfl (by (try simp only [List.map_toArray, List.map_cons, List.map_nil]); first | done | rfl | (simp only [List.length_drop, List.length_take]; rfl) | (simp only [ByteArray.size_append, Int.natCast_add]; done) | (simp only [ByteArray.size_append, Int.natCast_add]; rfl) | (simp only [Array.mk.injEq, List.cons.injEq, Value.int.injEq, true_and, and_true]; (try simp only [mx, mn, wrap64] at *); omega)) ?_; (with_reducible refine (value_code.calls a0_0 a0_1 a0_2 a0_3 a0_4 t397 _ A2.out).mono ?_); rintro e w27 ⟨rfl, hb⟩; refine ⟨_, rfl, ?_⟩; have n0_ := Aside0.mk (blk_below (g := gb396) (o := .cells #[.int .i64 a0_0, .int .i64 a0_1, .string a0_2, .bool a0_3, .int .i64 a0_4] 25 (0, 0)) (by (with_reducible repeat (first | refine blk_drewN ?_ _ | refine blk_drew ?_ | refine blk_alloc ?_ _)); exact BK396.out) hb); have n1_ := Aside0.mk (below_step (by repeat (first | (with_reducible first | exact HB.out | apply below_alloc | apply pw_below_drewN | apply below_drew1 | refine below_set ?_ GE396.out) | exact HB.out)) hb); clear BK396; clear HB; have BK396 := n0_; have HB := n1_; clear n0_ n1_; (try clear hb); (try clear hb2); (try clear hk); (try clear hi)))
    go_ret2
    exact ⟨by first | rfl | (simp [errW_none, errW_some] <;> rfl) | (simp [*, errW_none, errW_some] <;> rfl), by repeat (first | (with_reducible first | exact HB.out | apply below_alloc | apply pw_below_drewN | apply below_drew1 | refine below_set ?_ GE396.out) | exact HB.out)⟩
end Go.Proofs.YtngdggmlfoogcaaGreatDoor.Pr
end
