/-
  What the law ValueOrder leans on, out of the texts that were printed and written for this seat: only what its proof mentions (gathered by a program of the author's).
-/
import Derived.Test.YtgjdlimbkjdhjaaGreatDoorSValueOrder4
import Derived.Below
import Derived.Deep.RegionWith
import Derived.Laws.NewBlocks
import Derived.WalkKit
section
namespace Go.Proofs.YtgjdlimbkjdhjaaGreatDoor.Pr
set_option linter.unusedVariables false
set_option linter.unusedSimpArgs false
open Go.RowKit Go.Proofs.YtgjdlimbkjdhjaaGreatDoorW.PrintWords Go.Proofs.YtgjdlimbkjdhjaaGreatDoorW.PrintMore
def value_Check.f (a0_0 : Int) (a0_1 : Int) (a0_2 : ByteArray) (a0_3 : Bool) (a0_4 : Int) : Option Int :=
  if a0_0 = 0 then some (if a0_1 = 0 ∧ a0_2.toList = [] ∧ a0_3 = false ∧ a0_4 = 0 then 0 else 2)
  else if a0_0 = 1 then (num_Fits.f a0_1).bind fun t => some (if t = true ∧ a0_2.toList = [] ∧ a0_3 = false ∧ a0_4 = 0 then 0 else 2)
  else if a0_0 = 2 then some (if (a0_2.size : Int) ≤ 255 ∧ a0_1 = 0 ∧ a0_3 = false ∧ a0_4 = 0 then 0 else 2)
  else if a0_0 = 3 then some (if a0_1 = 0 ∧ a0_2.toList = [] ∧ a0_4 = 0 then 0 else 2)
  else if a0_0 = 4 then some (if 0 < a0_4 ∧ a0_4 ≤ 7 ∧ a0_1 = 0 ∧ a0_2.toList = [] ∧ a0_3 = false then 0 else 2)
  else some 2
theorem value_Check_0 (n : Int) (s : ByteArray) (b : Bool) (c : Int) (r : Int) (hr : r = if n = 0 ∧ s.toList = [] ∧ b = false ∧ c = 0 then 0 else 2) (w : World) :
    Calls Tryz.prog 18 #[.agg #[.int .i64 0, .int .i64 n, .string s, .bool b, .int .i64 c]] w fun e w' => e = .returned (.int .i64 r) ∧ Below w.heap.size w w' := by
  have HR := Aside0.mk hr
  clear hr
  go_enter Tryz.func18, Tryz.ntmps18
  go_wp2
  all_goals go_ret
  all_goals refine ⟨?_, by repeat (first | exact Below.refl _ _ | refine below_set ?_ (by simp) | refine below_alloc ?_ _)⟩
  all_goals (have hr := HR.out; clear HR; simp_all; try omega)
set_option maxHeartbeats 4000000 in
theorem value_Check_1 (n : Int) (s : ByteArray) (b : Bool) (c : Int) (t : Bool) (ht : num_Fits.f n = some t) (r : Int) (hr : r = if t = true ∧ s.toList = [] ∧ b = false ∧ c = 0 then 0 else 2) (w : World) :
    Calls Tryz.prog 18 #[.agg #[.int .i64 1, .int .i64 n, .string s, .bool b, .int .i64 c]] w fun e w' => e = .returned (.int .i64 r) ∧ Below w.heap.size w w' := by
  have HR := Aside0.mk hr
  have HT := Aside0.mk ht
  clear hr ht
  cases t
  all_goals
    go_enter Tryz.func18, Tryz.ntmps18
    go_wp2
    go_region_with (go_at_call 39; (with_reducible refine (num_Fits.calls _ _ _ HT.out).mono ?_); rintro e w1 ⟨rfl, nd, rfl⟩)
    all_goals go_wp2
    all_goals go_ret
    all_goals refine ⟨?_, by repeat (first | exact Below.refl _ _ | refine pw_below_drewN ?_ _ | refine below_drew1 ?_ | refine below_set ?_ (by simp) | refine below_alloc ?_ _)⟩
    all_goals (have hr := HR.out; clear HR; simp_all; try omega)
set_option maxHeartbeats 4000000 in
theorem value_Check_2 (n : Int) (s : ByteArray) (b : Bool) (c : Int) (r : Int) (hr : r = if (s.size : Int) ≤ 255 ∧ n = 0 ∧ b = false ∧ c = 0 then 0 else 2) (w : World) :
    Calls Tryz.prog 18 #[.agg #[.int .i64 2, .int .i64 n, .string s, .bool b, .int .i64 c]] w fun e w' => e = .returned (.int .i64 r) ∧ Below w.heap.size w w' := by
  have HR := Aside0.mk hr
  clear hr
  go_enter Tryz.func18, Tryz.ntmps18
  go_wp2
  go_region_with (fail)
  all_goals go_wp2
  all_goals go_ret
  all_goals refine ⟨?_, by repeat (first | exact Below.refl _ _ | refine pw_below_drewN ?_ _ | refine below_drew1 ?_ | refine below_set ?_ (by simp) | refine below_alloc ?_ _)⟩
  all_goals (have hr := HR.out; clear HR; simp_all; try omega)
set_option maxHeartbeats 4000000 in
theorem value_Check_3 (n : Int) (s : ByteArray) (b : Bool) (c : Int) (r : Int) (hr : r = if n = 0 ∧ s.toList = [] ∧ c = 0 then 0 else 2) (w : World) :
    Calls Tryz.prog 18 #[.agg #[.int .i64 3, .int .i64 n, .string s, .bool b, .int .i64 c]] w fun e w' => e = .returned (.int .i64 r) ∧ Below w.heap.size w w' := by
  have HR := Aside0.mk hr
  clear hr
  go_enter Tryz.func18, Tryz.ntmps18
  go_wp2
  all_goals go_ret
  all_goals refine ⟨?_, by repeat (first | exact Below.refl _ _ | refine pw_below_drewN ?_ _ | refine below_drew1 ?_ | refine below_set ?_ (by simp) | refine below_alloc ?_ _)⟩
  all_goals (have hr := HR.out; clear HR; simp_all; try omega)
set_option maxHeartbeats 4000000 in
theorem value_Check_4 (n : Int) (s : ByteArray) (b : Bool) (c : Int) (r : Int) (hr : r = if 0 < c ∧ c ≤ 7 ∧ n = 0 ∧ s.toList = [] ∧ b = false then 0 else 2) (w : World) :
    Calls Tryz.prog 18 #[.agg #[.int .i64 4, .int .i64 n, .string s, .bool b, .int .i64 c]] w fun e w' => e = .returned (.int .i64 r) ∧ Below w.heap.size w w' := by
  have HR := Aside0.mk hr
  clear hr
  by_cases h1 : 0 < c
  · have d1 : decide (0 < c) = true := decide_eq_true h1
    have HC := Aside0.mk h1
    clear h1
    by_cases h7 : c ≤ 7
    all_goals
      have d7 := Aside0.mk h7
      first | (have e7 : decide (c ≤ 7) = true := decide_eq_true h7) | (have e7 : decide (c ≤ 7) = false := decide_eq_false h7)
      clear h7
      go_enter Tryz.func18, Tryz.ntmps18
      go_wp2
      go_region_with (fail)
      all_goals go_wp2
      all_goals go_ret
      all_goals refine ⟨?_, by repeat (first | exact Below.refl _ _ | refine pw_below_drewN ?_ _ | refine below_drew1 ?_ | refine below_set ?_ (by simp) | refine below_alloc ?_ _)⟩
      all_goals (have hr := HR.out; have hc := HC.out; have h7 := d7.out; clear HR HC d7; simp_all; try omega)
  · have d1 : decide (0 < c) = false := decide_eq_false h1
    have HC := Aside0.mk h1
    clear h1
    go_enter Tryz.func18, Tryz.ntmps18
    go_wp2
    go_region
    all_goals go_wp2
    all_goals go_ret
    all_goals refine ⟨?_, by repeat (first | exact Below.refl _ _ | refine pw_below_drewN ?_ _ | refine below_drew1 ?_ | refine below_set ?_ (by simp) | refine below_alloc ?_ _)⟩
    all_goals (have hr := HR.out; have hc := HC.out; clear HR HC; simp_all; try omega)
set_option maxHeartbeats 4000000 in
theorem value_Check_5 (n : Int) (s : ByteArray) (b : Bool) (c : Int) (K : Int) (h0 : ¬ K = 0) (h1 : ¬ K = 1) (h2 : ¬ K = 2) (h3 : ¬ K = 3) (h4 : ¬ K = 4) (r : Int) (hr : r = 2) (w : World) :
    Calls Tryz.prog 18 #[.agg #[.int .i64 K, .int .i64 n, .string s, .bool b, .int .i64 c]] w fun e w' => e = .returned (.int .i64 r) ∧ Below w.heap.size w w' := by
  have HR := Aside0.mk hr
  clear hr
  go_enter Tryz.func18, Tryz.ntmps18
  go_wp2
  all_goals go_ret
  all_goals refine ⟨?_, by repeat (first | exact Below.refl _ _ | refine pw_below_drewN ?_ _ | refine below_drew1 ?_ | refine below_set ?_ (by simp) | refine below_alloc ?_ _)⟩
  all_goals (have hr := HR.out; clear HR; simp_all; try omega)
theorem value_Check.calls (a0_0 : Int) (a0_1 : Int) (a0_2 : ByteArray) (a0_3 : Bool) (a0_4 : Int) (r : Int) (w : World) (h : value_Check.f a0_0 a0_1 a0_2 a0_3 a0_4 = some r) :
    Calls Tryz.prog 18 #[.agg #[.int .i64 a0_0, .int .i64 a0_1, .string a0_2, .bool a0_3, .int .i64 a0_4]] w fun e w' => e = .returned (.int .i64 r) ∧ Below w.heap.size w w' := by
  unfold value_Check.f at h
  by_cases k0 : a0_0 = 0
  · rw [if_pos k0] at h
    subst k0
    exact value_Check_0 _ _ _ _ _ (Option.some.inj h).symm w
  rw [if_neg k0] at h
  by_cases k1 : a0_0 = 1
  · rw [if_pos k1] at h
    subst k1
    obtain ⟨t, ht, h⟩ := Option.bind_eq_some_iff.mp h
    exact value_Check_1 _ _ _ _ t ht _ (Option.some.inj h).symm w
  rw [if_neg k1] at h
  by_cases k2 : a0_0 = 2
  · rw [if_pos k2] at h
    subst k2
    exact value_Check_2 _ _ _ _ _ (Option.some.inj h).symm w
  rw [if_neg k2] at h
  by_cases k3 : a0_0 = 3
  · rw [if_pos k3] at h
    subst k3
    exact value_Check_3 _ _ _ _ _ (Option.some.inj h).symm w
  rw [if_neg k3] at h
  by_cases k4 : a0_0 = 4
  · rw [if_pos k4] at h
    subst k4
    exact value_Check_4 _ _ _ _ _ (Option.some.inj h).symm w
  rw [if_neg k4] at h
  exact value_Check_5 _ _ _ _ a0_0 k0 k1 k2 k3 k4 _ (Option.some.inj h).symm w
end Go.Proofs.YtgjdlimbkjdhjaaGreatDoor.Pr
end
section
namespace Go.Proofs.YtgjdlimbkjdhjaaGreatDoor.Pr
open Go.RowKit Go.Proofs.YtgjdlimbkjdhjaaGreatDoorW.PrintWords Go.Proofs.YtgjdlimbkjdhjaaGreatDoorW.PrintLast Go.Proofs.YtgjdlimbkjdhjaaGreatDoorW.PrintMore
attribute [local go_sem] max2_int min2_int max_two min_two max_three min_three max_four min_four   -- for this text's walks alone
set_option linter.unusedVariables false
set_option linter.unusedSimpArgs false
def foolscaplaw04_plain.f (a0_0 : Int) (a0_1 : Int) (a0_2 : ByteArray) (a0_3 : Bool) (a0_4 : Int) : Option (Bool) := (value_Check.f a0_0 a0_1 a0_2 a0_3 a0_4).bind fun t363 => (if t363 = 0 then (if a0_0 = 4 then (some false) else (some (a0_0 != 0))) else (some false))
set_option maxHeartbeats 8000000 in
set_option maxRecDepth 100000 in
theorem foolscaplaw04_plain.calls (a0_0 : Int) (a0_1 : Int) (a0_2 : ByteArray) (a0_3 : Bool) (a0_4 : Int) (r : Bool) (w : World) (h : foolscaplaw04_plain.f a0_0 a0_1 a0_2 a0_3 a0_4 = some r) :
    Calls Tryz.prog 23 #[.agg #[.int .i64 a0_0, .int .i64 a0_1, .string a0_2, .bool a0_3, .int .i64 a0_4]] w fun e w' => e = .returned (.bool r) ∧ Below w.heap.size w w' := by
  have hu25 := Tryz.underlying25
  have HB := Aside0.mk (Below.refl w.heap.size w)
  have H : ((value_Check.f a0_0 a0_1 a0_2 a0_3 a0_4).bind fun t363 => (if t363 = 0 then (if a0_0 = 4 then (some false) else (some (a0_0 != 0))) else (some false))) = some r := h
  clear h
  replace H := Option.bind_eq_some_iff.mp H
  obtain ⟨t363, A20, H⟩ := H
  replace H : (if t363 = 0 then (if a0_0 = 4 then (some false) else (some (a0_0 != 0))) else (some false)) = some r := H
  have A2 := Aside0.mk A20
  clear A20
  by_cases c3 : t363 = 0
  · rw [if_pos c3] at H
    have c3b0 : (t363 == 0) = true := beq_iff_eq.mpr c3
    have c3b1 : (t363 != 0) = false := bne_eq_false_iff_eq.mpr c3
    clear c3
    by_cases c4 : a0_0 = 4
    · rw [if_pos c4] at H
      have c4b0 : (a0_0 == 4) = true := beq_iff_eq.mpr c4
      have c4b1 : (a0_0 != 4) = false := bne_eq_false_iff_eq.mpr c4
      clear c4
      obtain rfl := Option.some.inj H
      go_enter Tryz.func23, Tryz.ntmps23
      go_wp2_with (first | ((with_reducible refine gate_dst (N := 1) rfl ?_); refine box_event ?hg (N := 1) ?hd (cs := #[.int .i64 a0_0, .int .i64 a0_1, .string a0_2, .bool a0_3, .int .i64 a0_4]) (t := 25) ?hr ?_; (case hd => rfl); (case hg => rfl); (case hr => first | (go_simp; done) | (go_simp; rfl)); intro gb362 hg w5 hbox hb; have n0_ := Aside0.mk (below_step (by repeat (first | (with_reducible first | exact HB.out | apply below_alloc | apply pw_below_drewN | apply below_drew1) | exact HB.out)) hb); have n1_ := Aside0.mk (hbox); have n2_ := Aside0.mk ((by rw [hg]; exact (below_size (by repeat (first | (with_reducible first | exact HB.out | apply below_alloc | apply pw_below_drewN | apply below_drew1) | exact HB.out))) : w.heap.size ≤ gb362)); have n3_ := Aside0.mk ((by rw [hg]; exact (below_size (by repeat (first | (with_reducible first | exact HB.out | apply below_alloc | apply pw_below_drewN | apply below_drew1) | exact HB.out))) : w.heap.size ≤ gb362)); clear HB; have HB := n0_; have BK362 := n1_; have GW362 := n2_; have GE362 := n3_; clear n0_ n1_ n2_ n3_; clear hb hbox hg; have hcz6_0 : w5.cell? ⟨gb362, 0, none⟩ = some (.int .i64 a0_0) := (blk_cell BK362.out 0).trans rfl; have hcz6_1 : w5.cell? ⟨gb362, 1, none⟩ = some (.int .i64 a0_1) := (blk_cell BK362.out 1).trans rfl; have hcz6_2 : w5.cell? ⟨gb362, 2, none⟩ = some (.string a0_2) := (blk_cell BK362.out 2).trans rfl; have hcz6_3 : w5.cell? ⟨gb362, 3, none⟩ = some (.bool a0_3) := (blk_cell BK362.out 3).trans rfl; have hcz6_4 : w5.cell? ⟨gb362, 4, none⟩ = some (.int .i64 a0_4) := (blk_cell BK362.out 4).trans rfl; have hfz6_0 := blk_frozen BK362.out 0; have hfz6_1 := blk_frozen BK362.out 1; have hfz6_2 := blk_frozen BK362.out 2; have hfz6_3 := blk_frozen BK362.out 3; have hfz6_4 := blk_frozen BK362.out 4) | ((with_reducible refine gate_callee (f := 18) rfl ?_); refine goesL_ (some 4) rfl rfl Tryz.func18 (by kernel_rfl) rfl #[.agg #[.int .i64 a0_0, .int .i64 a0_1, .string a0_2, .bool a0_3, .int .i64 a0_4]] rfl (by (try simp only [List.map_toArray, List.map_cons, List.map_nil]); first | done | rfl | (simp only [List.length_drop, List.length_take]; rfl) | (simp only [ByteArray.size_append, Int.natCast_add]; done) | (simp only [ByteArray.size_append, Int.natCast_add]; rfl) | (simp only [Array.mk.injEq, List.cons.injEq, Value.int.injEq, true_and, and_true]; (try simp only [mx, mn, wrap64] at *); omega)) ?_; (with_reducible refine (value_Check.calls a0_0 a0_1 a0_2 a0_3 a0_4 t363 _ A2.out).mono ?_); rintro e w7 ⟨rfl, hb⟩; refine ⟨_, rfl, ?_⟩; have n0_ := Aside0.mk (blk_below (g := gb362) (o := .cells #[.int .i64 a0_0, .int .i64 a0_1, .string a0_2, .bool a0_3, .int .i64 a0_4] 25 (0, 0)) (by (with_reducible repeat (first | refine blk_drewN ?_ _ | refine blk_drew ?_ | refine blk_alloc ?_ _)); exact BK362.out) hb); have n1_ := Aside0.mk (below_step (by repeat (first | (with_reducible first | exact HB.out | apply below_alloc | apply pw_below_drewN | apply below_drew1 | refine below_set ?_ GE362.out) | exact HB.out)) hb); clear BK362; clear HB; have BK362 := n0_; have HB := n1_; clear n0_ n1_; (try clear hb); (try clear hb2); (try clear hk); (try clear hi); have hcz8_0 : w7.cell? ⟨gb362, 0, none⟩ = some (.int .i64 a0_0) := (blk_cell BK362.out 0).trans rfl; have hcz8_1 : w7.cell? ⟨gb362, 1, none⟩ = some (.int .i64 a0_1) := (blk_cell BK362.out 1).trans rfl; have hcz8_2 : w7.cell? ⟨gb362, 2, none⟩ = some (.string a0_2) := (blk_cell BK362.out 2).trans rfl; have hcz8_3 : w7.cell? ⟨gb362, 3, none⟩ = some (.bool a0_3) := (blk_cell BK362.out 3).trans rfl; have hcz8_4 : w7.cell? ⟨gb362, 4, none⟩ = some (.int .i64 a0_4) := (blk_cell BK362.out 4).trans rfl; have hfz8_0 := blk_frozen BK362.out 0; have hfz8_1 := blk_frozen BK362.out 1; have hfz8_2 := blk_frozen BK362.out 2; have hfz8_3 := blk_frozen BK362.out 3; have hfz8_4 := blk_frozen BK362.out 4))
      go_ret
      exact ⟨by first | rfl | (simp [errW_none, errW_some] <;> rfl) | (simp [*, errW_none, errW_some] <;> rfl), by repeat (first | (with_reducible first | exact HB.out | apply below_alloc | apply pw_below_drewN | apply below_drew1 | refine below_set ?_ GE362.out) | exact HB.out)⟩
    · rw [if_neg c4] at H
      have c4b0 : (a0_0 == 4) = false := beq_eq_false_iff_ne.mpr c4
      have c4b1 : (a0_0 != 4) = true := bne_iff_ne.mpr c4
      obtain rfl := Option.some.inj H
      go_enter Tryz.func23, Tryz.ntmps23
      go_wp2_with (first | ((with_reducible refine gate_dst (N := 1) rfl ?_); refine box_event ?hg (N := 1) ?hd (cs := #[.int .i64 a0_0, .int .i64 a0_1, .string a0_2, .bool a0_3, .int .i64 a0_4]) (t := 25) ?hr ?_; (case hd => rfl); (case hg => rfl); (case hr => first | (go_simp; done) | (go_simp; rfl)); intro gb362 hg w9 hbox hb; have n0_ := Aside0.mk (below_step (by repeat (first | (with_reducible first | exact HB.out | apply below_alloc | apply pw_below_drewN | apply below_drew1) | exact HB.out)) hb); have n1_ := Aside0.mk (hbox); have n2_ := Aside0.mk ((by rw [hg]; exact (below_size (by repeat (first | (with_reducible first | exact HB.out | apply below_alloc | apply pw_below_drewN | apply below_drew1) | exact HB.out))) : w.heap.size ≤ gb362)); have n3_ := Aside0.mk ((by rw [hg]; exact (below_size (by repeat (first | (with_reducible first | exact HB.out | apply below_alloc | apply pw_below_drewN | apply below_drew1) | exact HB.out))) : w.heap.size ≤ gb362)); clear HB; have HB := n0_; have BK362 := n1_; have GW362 := n2_; have GE362 := n3_; clear n0_ n1_ n2_ n3_; clear hb hbox hg; have hcz10_0 : w9.cell? ⟨gb362, 0, none⟩ = some (.int .i64 a0_0) := (blk_cell BK362.out 0).trans rfl; have hcz10_1 : w9.cell? ⟨gb362, 1, none⟩ = some (.int .i64 a0_1) := (blk_cell BK362.out 1).trans rfl; have hcz10_2 : w9.cell? ⟨gb362, 2, none⟩ = some (.string a0_2) := (blk_cell BK362.out 2).trans rfl; have hcz10_3 : w9.cell? ⟨gb362, 3, none⟩ = some (.bool a0_3) := (blk_cell BK362.out 3).trans rfl; have hcz10_4 : w9.cell? ⟨gb362, 4, none⟩ = some (.int .i64 a0_4) := (blk_cell BK362.out 4).trans rfl; have hfz10_0 := blk_frozen BK362.out 0; have hfz10_1 := blk_frozen BK362.out 1; have hfz10_2 := blk_frozen BK362.out 2; have hfz10_3 := blk_frozen BK362.out 3; have hfz10_4 := blk_frozen BK362.out 4) | ((with_reducible refine gate_callee (f := 18) rfl ?_); refine goesL_ (some 4) rfl rfl Tryz.func18 (by kernel_rfl) rfl #[.agg #[.int .i64 a0_0, .int .i64 a0_1, .string a0_2, .bool a0_3, .int .i64 a0_4]] rfl (by (try simp only [List.map_toArray, List.map_cons, List.map_nil]); first | done | rfl | (simp only [List.length_drop, List.length_take]; rfl) | (simp only [ByteArray.size_append, Int.natCast_add]; done) | (simp only [ByteArray.size_append, Int.natCast_add]; rfl) | (simp only [Array.mk.injEq, List.cons.injEq, Value.int.injEq, true_and, and_true]; (try simp only [mx, mn, wrap64] at *); omega)) ?_; (with_reducible refine (value_Check.calls a0_0 a0_1 a0_2 a0_3 a0_4 t363 _ A2.out).mono ?_); rintro e w11 ⟨rfl, hb⟩; refine ⟨_, rfl, ?_⟩; have n0_ := Aside0.mk (blk_below (g := gb362) (o := .cells #[.int .i64 a0_0, .int .i64 a0_1, .string a0_2, .bool a0_3, .int .i64 a0_4] 25 (0, 0)) (by (with_reducible repeat (first | refine blk_drewN ?_ _ | refine blk_drew ?_ | refine blk_alloc ?_ _)); exact BK362.out) hb); have n1_ := Aside0.mk (below_step (by repeat (first | (with_reducible first | exact HB.out | apply below_alloc | apply pw_below_drewN | apply below_drew1 | refine below_set ?_ GE362.out) | exact HB.out)) hb); clear BK362; clear HB; have BK362 := n0_; have HB := n1_; clear n0_ n1_; (try clear hb); (try clear hb2); (try clear hk); (try clear hi); have hcz12_0 : w11.cell? ⟨gb362, 0, none⟩ = some (.int .i64 a0_0) := (blk_cell BK362.out 0).trans rfl; have hcz12_1 : w11.cell? ⟨gb362, 1, none⟩ = some (.int .i64 a0_1) := (blk_cell BK362.out 1).trans rfl; have hcz12_2 : w11.cell? ⟨gb362, 2, none⟩ = some (.string a0_2) := (blk_cell BK362.out 2).trans rfl; have hcz12_3 : w11.cell? ⟨gb362, 3, none⟩ = some (.bool a0_3) := (blk_cell BK362.out 3).trans rfl; have hcz12_4 : w11.cell? ⟨gb362, 4, none⟩ = some (.int .i64 a0_4) := (blk_cell BK362.out 4).trans rfl; have hfz12_0 := blk_frozen BK362.out 0; have hfz12_1 := blk_frozen BK362.out 1; have hfz12_2 := blk_frozen BK362.out 2; have hfz12_3 := blk_frozen BK362.out 3; have hfz12_4 := blk_frozen BK362.out 4))
      go_ret
      exact ⟨by first | rfl | (simp [errW_none, errW_some] <;> rfl) | (simp [*, errW_none, errW_some] <;> rfl), by repeat (first | (with_reducible first | exact HB.out | apply below_alloc | apply pw_below_drewN | apply below_drew1 | refine below_set ?_ GE362.out) | exact HB.out)⟩
  · rw [if_neg c3] at H
    have c3b0 : (t363 == 0) = false := beq_eq_false_iff_ne.mpr c3
    have c3b1 : (t363 != 0) = true := bne_iff_ne.mpr c3
    obtain rfl := Option.some.inj H
    go_enter Tryz.func23, Tryz.ntmps23
    go_wp2_with (first | ((with_reducible refine gate_dst (N := 1) rfl ?_); refine box_event ?hg (N := 1) ?hd (cs := #[.int .i64 a0_0, .int .i64 a0_1, .string a0_2, .bool a0_3, .int .i64 a0_4]) (t := 25) ?hr ?_; (case hd => rfl); (case hg => rfl); (case hr => first | (go_simp; done) | (go_simp; rfl)); intro gb362 hg w13 hbox hb; have n0_ := Aside0.mk (below_step (by repeat (first | (with_reducible first | exact HB.out | apply below_alloc | apply pw_below_drewN | apply below_drew1) | exact HB.out)) hb); have n1_ := Aside0.mk (hbox); have n2_ := Aside0.mk ((by rw [hg]; exact (below_size (by repeat (first | (with_reducible first | exact HB.out | apply below_alloc | apply pw_below_drewN | apply below_drew1) | exact HB.out))) : w.heap.size ≤ gb362)); have n3_ := Aside0.mk ((by rw [hg]; exact (below_size (by repeat (first | (with_reducible first | exact HB.out | apply below_alloc | apply pw_below_drewN | apply below_drew1) | exact HB.out))) : w.heap.size ≤ gb362)); clear HB; have HB := n0_; have BK362 := n1_; have GW362 := n2_; have GE362 := n3_; clear n0_ n1_ n2_ n3_; clear hb hbox hg; have hcz14_0 : w13.cell? ⟨gb362, 0, none⟩ = some (.int .i64 a0_0) := (blk_cell BK362.out 0).trans rfl; have hcz14_1 : w13.cell? ⟨gb362, 1, none⟩ = some (.int .i64 a0_1) := (blk_cell BK362.out 1).trans rfl; have hcz14_2 : w13.cell? ⟨gb362, 2, none⟩ = some (.string a0_2) := (blk_cell BK362.out 2).trans rfl; have hcz14_3 : w13.cell? ⟨gb362, 3, none⟩ = some (.bool a0_3) := (blk_cell BK362.out 3).trans rfl; have hcz14_4 : w13.cell? ⟨gb362, 4, none⟩ = some (.int .i64 a0_4) := (blk_cell BK362.out 4).trans rfl; have hfz14_0 := blk_frozen BK362.out 0; have hfz14_1 := blk_frozen BK362.out 1; have hfz14_2 := blk_frozen BK362.out 2; have hfz14_3 := blk_frozen BK362.out 3; have hfz14_4 := blk_frozen BK362.out 4) | ((with_reducible refine gate_callee (f := 18) rfl ?_); refine goesL_ (some 4) rfl rfl Tryz.func18 (by kernel_rfl) rfl #[.agg #[.int .i64 a0_0, .int .i64 a0_1, .string a0_2, .bool a0_3, .int .i64 a0_4]] rfl (by (try simp only [List.map_toArray, List.map_cons, List.map_nil]); first | done | rfl | (simp only [List.length_drop, List.length_take]; rfl) | (simp only [ByteArray.size_append, Int.natCast_add]; done) | (simp only [ByteArray.size_append, Int.natCast_add]; rfl) | (simp only [Array.mk.injEq, List.cons.injEq, Value.int.injEq, true_and, and_true]; (try simp only [mx, mn, wrap64] at *); omega)) ?_; (with_reducible refine (value_Check.calls a0_0 a0_1 a0_2 a0_3 a0_4 t363 _ A2.out).mono ?_); rintro e w15 ⟨rfl, hb⟩; refine ⟨_, rfl, ?_⟩; have n0_ := Aside0.mk (blk_below (g := gb362) (o := .cells #[.int .i64 a0_0, .int .i64 a0_1, .string a0_2, .bool a0_3, .int .i64 a0_4] 25 (0, 0)) (by (with_reducible repeat (first | refine blk_drewN ?_ _ | refine blk_drew ?_ | refine blk_alloc ?_ _)); exact BK362.out) hb); have n1_ := Aside0.mk (below_step (by repeat (first | (with_reducible first | exact HB.out | apply below_alloc | apply pw_below_drewN | apply below_drew1 | refine below_set ?_ GE362.out) | exact HB.out)) hb); clear BK362; clear HB; have BK362 := n0_; have HB := n1_; clear n0_ n1_; (try clear hb); (try clear hb2); (try clear hk); (try clear hi)))
    go_ret
    exact ⟨by first | rfl | (simp [errW_none, errW_some] <;> rfl) | (simp [*, errW_none, errW_some] <;> rfl), by repeat (first | (with_reducible first | exact HB.out | apply below_alloc | apply pw_below_drewN | apply below_drew1 | refine below_set ?_ GE362.out) | exact HB.out)⟩
end Go.Proofs.YtgjdlimbkjdhjaaGreatDoor.Pr
end
