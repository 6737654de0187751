/-
  Lemmas for the law FAllFTable.
-/
import Derived.Test.YtopdjokncbpghaaGreatDoorSFAllFTable15
import Derived.Below
import Derived.Deep.RegionWith
import Derived.Laws.NewBlocks
import Derived.WalkKit
set_option maxHeartbeats 8000000
set_option maxRecDepth 100000
set_option linter.unusedVariables false
set_option linter.unusedSimpArgs false
section
namespace Go.Proofs.YtopdjokncbpghaaGreatDoor.Pr
open Go.RowKit Go.Proofs.YtopdjokncbpghaaGreatDoorW.PrintWords Go.Proofs.YtopdjokncbpghaaGreatDoorW.PrintMore
def value_Check.f (a0_0 : Int) (a0_1 : Int) (a0_2 : ByteArray) (a0_3 : Bool) (a0_4 : Int) : Option Int :=
 if a0_0 = 0 then some (if a0_1 = 0 ∧ a0_2.toList = [] ∧ a0_3 = false ∧ a0_4 = 0 then 0 else 2)
 else if a0_0 = 1 then (num_Fits.f a0_1).bind fun t => some (if t = true ∧ a0_2.toList = [] ∧ a0_3 = false ∧ a0_4 = 0 then 0 else 2)
 else if a0_0 = 2 then some (if (a0_2.size : Int) ≤ 255 ∧ a0_1 = 0 ∧ a0_3 = false ∧ a0_4 = 0 then 0 else 2)
 else if a0_0 = 3 then some (if a0_1 = 0 ∧ a0_2.toList = [] ∧ a0_4 = 0 then 0 else 2)
 else if a0_0 = 4 then some (if 0 < a0_4 ∧ a0_4 ≤ 7 ∧ a0_1 = 0 ∧ a0_2.toList = [] ∧ a0_3 = false then 0 else 2)
 else some 2
theorem value_Check_0 (n : Int) (s : ByteArray) (b : Bool) (c : Int) (r : Int) (hr : r = if n = 0 ∧ s.toList = [] ∧ b = false ∧ c = 0 then 0 else 2) (w : World) :
  Calls Tryz.prog 75 #[.agg #[.int .i64 0, .int .i64 n, .string s, .bool b, .int .i64 c]] w fun e w' => e = .returned (.int .i64 r) ∧ Below w.heap.size w w' := by
 have HR := Aside0.mk hr
 clear hr
 go_enter Tryz.func75, Tryz.ntmps75
 go_wp2
 all_goals go_ret
 all_goals refine ⟨?_, by repeat (first | exact Below.refl _ _ | refine below_set ?_ (by simp) | refine below_alloc ?_ _)⟩
 all_goals (have hr := HR.out; clear HR; simp_all; try omega)
theorem value_Check_1 (n : Int) (s : ByteArray) (b : Bool) (c : Int) (t : Bool) (ht : num_Fits.f n = some t) (r : Int) (hr : r = if t = true ∧ s.toList = [] ∧ b = false ∧ c = 0 then 0 else 2) (w : World) :
  Calls Tryz.prog 75 #[.agg #[.int .i64 1, .int .i64 n, .string s, .bool b, .int .i64 c]] w fun e w' => e = .returned (.int .i64 r) ∧ Below w.heap.size w w' := by
 have HR := Aside0.mk hr
 have HT := Aside0.mk ht
 clear hr ht
 cases t
 all_goals
  go_enter Tryz.func75, Tryz.ntmps75
  go_wp2
  go_region_with (go_at_call 95; (with_reducible refine (num_Fits.calls _ _ _ HT.out).mono ?_); rintro e w1 ⟨rfl, nd, rfl⟩)
  all_goals go_wp2
  all_goals go_ret
  all_goals refine ⟨?_, by repeat (first | exact Below.refl _ _ | refine pw_below_drewN ?_ _ | refine below_drew1 ?_ | refine below_set ?_ (by simp) | refine below_alloc ?_ _)⟩
  all_goals (have hr := HR.out; clear HR; simp_all; try omega)
theorem value_Check_2 (n : Int) (s : ByteArray) (b : Bool) (c : Int) (r : Int) (hr : r = if (s.size : Int) ≤ 255 ∧ n = 0 ∧ b = false ∧ c = 0 then 0 else 2) (w : World) :
  Calls Tryz.prog 75 #[.agg #[.int .i64 2, .int .i64 n, .string s, .bool b, .int .i64 c]] w fun e w' => e = .returned (.int .i64 r) ∧ Below w.heap.size w w' := by
 have HR := Aside0.mk hr
 clear hr
 go_enter Tryz.func75, Tryz.ntmps75
 go_wp2
 go_region_with (fail)
 all_goals go_wp2
 all_goals go_ret
 all_goals refine ⟨?_, by repeat (first | exact Below.refl _ _ | refine pw_below_drewN ?_ _ | refine below_drew1 ?_ | refine below_set ?_ (by simp) | refine below_alloc ?_ _)⟩
 all_goals (have hr := HR.out; clear HR; simp_all; try omega)
theorem value_Check_3 (n : Int) (s : ByteArray) (b : Bool) (c : Int) (r : Int) (hr : r = if n = 0 ∧ s.toList = [] ∧ c = 0 then 0 else 2) (w : World) :
  Calls Tryz.prog 75 #[.agg #[.int .i64 3, .int .i64 n, .string s, .bool b, .int .i64 c]] w fun e w' => e = .returned (.int .i64 r) ∧ Below w.heap.size w w' := by
 have HR := Aside0.mk hr
 clear hr
 go_enter Tryz.func75, Tryz.ntmps75
 go_wp2
 all_goals go_ret
 all_goals refine ⟨?_, by repeat (first | exact Below.refl _ _ | refine pw_below_drewN ?_ _ | refine below_drew1 ?_ | refine below_set ?_ (by simp) | refine below_alloc ?_ _)⟩
 all_goals (have hr := HR.out; clear HR; simp_all; try omega)
theorem value_Check_4 (n : Int) (s : ByteArray) (b : Bool) (c : Int) (r : Int) (hr : r = if 0 < c ∧ c ≤ 7 ∧ n = 0 ∧ s.toList = [] ∧ b = false then 0 else 2) (w : World) :
  Calls Tryz.prog 75 #[.agg #[.int .i64 4, .int .i64 n, .string s, .bool b, .int .i64 c]] w fun e w' => e = .returned (.int .i64 r) ∧ Below w.heap.size w w' := by
 have HR := Aside0.mk hr
 clear hr
 by_cases h1 : 0 < c
 ·have d1 : decide (0 < c) = true := decide_eq_true h1
  have HC := Aside0.mk h1
  clear h1
  by_cases h7 : c ≤ 7
  all_goals
   have d7 := Aside0.mk h7
   first | (have e7 : decide (c ≤ 7) = true := decide_eq_true h7) | (have e7 : decide (c ≤ 7) = false := decide_eq_false h7)
   clear h7
   go_enter Tryz.func75, Tryz.ntmps75
   go_wp2
   go_region_with (fail)
   all_goals go_wp2
   all_goals go_ret
   all_goals refine ⟨?_, by repeat (first | exact Below.refl _ _ | refine pw_below_drewN ?_ _ | refine below_drew1 ?_ | refine below_set ?_ (by simp) | refine below_alloc ?_ _)⟩
   all_goals (have hr := HR.out; have hc := HC.out; have h7 := d7.out; clear HR HC d7; simp_all; try omega)
 ·have d1 : decide (0 < c) = false := decide_eq_false h1
  have HC := Aside0.mk h1
  clear h1
  go_enter Tryz.func75, Tryz.ntmps75
  go_wp2
  go_region
  all_goals go_wp2
  all_goals go_ret
  all_goals refine ⟨?_, by repeat (first | exact Below.refl _ _ | refine pw_below_drewN ?_ _ | refine below_drew1 ?_ | refine below_set ?_ (by simp) | refine below_alloc ?_ _)⟩
  all_goals (have hr := HR.out; have hc := HC.out; clear HR HC; simp_all; try omega)
theorem value_Check_5 (n : Int) (s : ByteArray) (b : Bool) (c : Int) (K : Int) (h0 : ¬ K = 0) (h1 : ¬ K = 1) (h2 : ¬ K = 2) (h3 : ¬ K = 3) (h4 : ¬ K = 4) (r : Int) (hr : r = 2) (w : World) :
  Calls Tryz.prog 75 #[.agg #[.int .i64 K, .int .i64 n, .string s, .bool b, .int .i64 c]] w fun e w' => e = .returned (.int .i64 r) ∧ Below w.heap.size w w' := by
 have HR := Aside0.mk hr
 clear hr
 go_enter Tryz.func75, Tryz.ntmps75
 go_wp2
 all_goals go_ret
 all_goals refine ⟨?_, by repeat (first | exact Below.refl _ _ | refine pw_below_drewN ?_ _ | refine below_drew1 ?_ | refine below_set ?_ (by simp) | refine below_alloc ?_ _)⟩
 all_goals (have hr := HR.out; clear HR; simp_all; try omega)
theorem value_Check.calls (a0_0 : Int) (a0_1 : Int) (a0_2 : ByteArray) (a0_3 : Bool) (a0_4 : Int) (r : Int) (w : World) (h : value_Check.f a0_0 a0_1 a0_2 a0_3 a0_4 = some r) :
  Calls Tryz.prog 75 #[.agg #[.int .i64 a0_0, .int .i64 a0_1, .string a0_2, .bool a0_3, .int .i64 a0_4]] w fun e w' => e = .returned (.int .i64 r) ∧ Below w.heap.size w w' := by
 unfold value_Check.f at h
 by_cases k0 : a0_0 = 0
 ·rw [if_pos k0] at h
  subst k0
  exact value_Check_0 _ _ _ _ _ (Option.some.inj h).symm w
 rw [if_neg k0] at h
 by_cases k1 : a0_0 = 1
 ·rw [if_pos k1] at h
  subst k1
  obtain ⟨t, ht, h⟩ := Option.bind_eq_some_iff.mp h
  exact value_Check_1 _ _ _ _ t ht _ (Option.some.inj h).symm w
 rw [if_neg k1] at h
 by_cases k2 : a0_0 = 2
 ·rw [if_pos k2] at h
  subst k2
  exact value_Check_2 _ _ _ _ _ (Option.some.inj h).symm w
 rw [if_neg k2] at h
 by_cases k3 : a0_0 = 3
 ·rw [if_pos k3] at h
  subst k3
  exact value_Check_3 _ _ _ _ _ (Option.some.inj h).symm w
 rw [if_neg k3] at h
 by_cases k4 : a0_0 = 4
 ·rw [if_pos k4] at h
  subst k4
  exact value_Check_4 _ _ _ _ _ (Option.some.inj h).symm w
 rw [if_neg k4] at h
 exact value_Check_5 _ _ _ _ a0_0 k0 k1 k2 k3 k4 _ (Option.some.inj h).symm w
end Go.Proofs.YtopdjokncbpghaaGreatDoor.Pr
end
