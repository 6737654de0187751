/-
  Lemmas for the law LexScansLexPairs.
-/
import Derived.Test.YtmppnobldhhpjaaGreatDoorSLexScansLexPairs7
import Derived.Test.YtmppnobldhhpjaaGreatDoorSLexScansLexPairs4
import Derived.Test.YtmppnobldhhpjaaGreatDoorSLexScansLexPairs6
import Derived.Below
import Derived.Deep.RegionWith
import Derived.Laws.NewBlocks
import Derived.WalkKit
section
namespace Go.Proofs.YtmppnobldhhpjaaGreatDoor.Pr
set_option linter.unusedVariables false
set_option linter.unusedSimpArgs false
open Go.RowKit Go.Proofs.YtmppnobldhhpjaaGreatDoorW.PrintWords Go.Proofs.YtmppnobldhhpjaaGreatDoorW.PrintMore
def value_Check.f (a0_0 : Int) (a0_1 : Int) (a0_2 : ByteArray) (a0_3 : Bool) (a0_4 : Int) : Option Int :=
  if a0_0 = 0 then some (if a0_1 = 0 ∧ a0_2.toList = [] ∧ a0_3 = false ∧ a0_4 = 0 then 0 else 2)
  else if a0_0 = 1 then (num_Fits.f a0_1).bind fun t => some (if t = true ∧ a0_2.toList = [] ∧ a0_3 = false ∧ a0_4 = 0 then 0 else 2)
  else if a0_0 = 2 then some (if (a0_2.size : Int) ≤ 255 ∧ a0_1 = 0 ∧ a0_3 = false ∧ a0_4 = 0 then 0 else 2)
  else if a0_0 = 3 then some (if a0_1 = 0 ∧ a0_2.toList = [] ∧ a0_4 = 0 then 0 else 2)
  else if a0_0 = 4 then some (if 0 < a0_4 ∧ a0_4 ≤ 7 ∧ a0_1 = 0 ∧ a0_2.toList = [] ∧ a0_3 = false then 0 else 2)
  else some 2
theorem value_Check_0 (n : Int) (s : ByteArray) (b : Bool) (c : Int) (r : Int) (hr : r = if n = 0 ∧ s.toList = [] ∧ b = false ∧ c = 0 then 0 else 2) (w : World) :
    Calls Tryz.prog 60 #[.agg #[.int .i64 0, .int .i64 n, .string s, .bool b, .int .i64 c]] w fun e w' => e = .returned (.int .i64 r) ∧ Below w.heap.size w w' := by
  have HR := Aside0.mk hr
  clear hr
  go_enter Tryz.func60, Tryz.ntmps60
  go_wp2
  all_goals go_ret
  all_goals refine ⟨?_, by repeat (first | exact Below.refl _ _ | refine below_set ?_ (by simp) | refine bqA ?_ _)⟩
  all_goals (have hr := HR.out; clear HR; simp_all; try omega)
set_option maxHeartbeats 4000000 in
theorem value_Check_1 (n : Int) (s : ByteArray) (b : Bool) (c : Int) (t : Bool) (ht : num_Fits.f n = some t) (r : Int) (hr : r = if t = true ∧ s.toList = [] ∧ b = false ∧ c = 0 then 0 else 2) (w : World) :
    Calls Tryz.prog 60 #[.agg #[.int .i64 1, .int .i64 n, .string s, .bool b, .int .i64 c]] w fun e w' => e = .returned (.int .i64 r) ∧ Below w.heap.size w w' := by
  have HR := Aside0.mk hr
  have HT := Aside0.mk ht
  clear hr ht
  cases t
  all_goals
    go_enter Tryz.func60, Tryz.ntmps60
    go_wp2
    go_region_with (go_at_call 82; (with_reducible refine (num_Fits.calls _ _ _ HT.out).mono ?_); rintro e w1 ⟨rfl, nd, rfl⟩)
    all_goals go_wp2
    all_goals go_ret
    all_goals refine ⟨?_, by repeat (first | exact Below.refl _ _ | refine bqN ?_ _ | refine bqD ?_ | refine below_set ?_ (by simp) | refine bqA ?_ _)⟩
    all_goals (have hr := HR.out; clear HR; simp_all; try omega)
set_option maxHeartbeats 4000000 in
theorem value_Check_2 (n : Int) (s : ByteArray) (b : Bool) (c : Int) (r : Int) (hr : r = if (s.size : Int) ≤ 255 ∧ n = 0 ∧ b = false ∧ c = 0 then 0 else 2) (w : World) :
    Calls Tryz.prog 60 #[.agg #[.int .i64 2, .int .i64 n, .string s, .bool b, .int .i64 c]] w fun e w' => e = .returned (.int .i64 r) ∧ Below w.heap.size w w' := by
  have HR := Aside0.mk hr
  clear hr
  go_enter Tryz.func60, Tryz.ntmps60
  go_wp2
  go_region_with (fail)
  all_goals go_wp2
  all_goals go_ret
  all_goals refine ⟨?_, by repeat (first | exact Below.refl _ _ | refine bqN ?_ _ | refine bqD ?_ | refine below_set ?_ (by simp) | refine bqA ?_ _)⟩
  all_goals (have hr := HR.out; clear HR; simp_all; try omega)
set_option maxHeartbeats 4000000 in
theorem value_Check_3 (n : Int) (s : ByteArray) (b : Bool) (c : Int) (r : Int) (hr : r = if n = 0 ∧ s.toList = [] ∧ c = 0 then 0 else 2) (w : World) :
    Calls Tryz.prog 60 #[.agg #[.int .i64 3, .int .i64 n, .string s, .bool b, .int .i64 c]] w fun e w' => e = .returned (.int .i64 r) ∧ Below w.heap.size w w' := by
  have HR := Aside0.mk hr
  clear hr
  go_enter Tryz.func60, Tryz.ntmps60
  go_wp2
  all_goals go_ret
  all_goals refine ⟨?_, by repeat (first | exact Below.refl _ _ | refine bqN ?_ _ | refine bqD ?_ | refine below_set ?_ (by simp) | refine bqA ?_ _)⟩
  all_goals (have hr := HR.out; clear HR; simp_all; try omega)
set_option maxHeartbeats 4000000 in
theorem value_Check_4 (n : Int) (s : ByteArray) (b : Bool) (c : Int) (r : Int) (hr : r = if 0 < c ∧ c ≤ 7 ∧ n = 0 ∧ s.toList = [] ∧ b = false then 0 else 2) (w : World) :
    Calls Tryz.prog 60 #[.agg #[.int .i64 4, .int .i64 n, .string s, .bool b, .int .i64 c]] w fun e w' => e = .returned (.int .i64 r) ∧ Below w.heap.size w w' := by
  have HR := Aside0.mk hr
  clear hr
  by_cases h1 : 0 < c
  · have d1 : decide (0 < c) = true := decide_eq_true h1
    have HC := Aside0.mk h1
    clear h1
    by_cases h7 : c ≤ 7
    all_goals
      have d7 := Aside0.mk h7
      first | (have e7 : decide (c ≤ 7) = true := decide_eq_true h7) | (have e7 : decide (c ≤ 7) = false := decide_eq_false h7)
      clear h7
      go_enter Tryz.func60, Tryz.ntmps60
      go_wp2
      go_region_with (fail)
      all_goals go_wp2
      all_goals go_ret
      all_goals refine ⟨?_, by repeat (first | exact Below.refl _ _ | refine bqN ?_ _ | refine bqD ?_ | refine below_set ?_ (by simp) | refine bqA ?_ _)⟩
      all_goals (have hr := HR.out; have hc := HC.out; have h7 := d7.out; clear HR HC d7; simp_all; try omega)
  · have d1 : decide (0 < c) = false := decide_eq_false h1
    have HC := Aside0.mk h1
    clear h1
    go_enter Tryz.func60, Tryz.ntmps60
    go_wp2
    go_region
    all_goals go_wp2
    all_goals go_ret
    all_goals refine ⟨?_, by repeat (first | exact Below.refl _ _ | refine bqN ?_ _ | refine bqD ?_ | refine below_set ?_ (by simp) | refine bqA ?_ _)⟩
    all_goals (have hr := HR.out; have hc := HC.out; clear HR HC; simp_all; try omega)
set_option maxHeartbeats 4000000 in
theorem value_Check_5 (n : Int) (s : ByteArray) (b : Bool) (c : Int) (K : Int) (h0 : ¬ K = 0) (h1 : ¬ K = 1) (h2 : ¬ K = 2) (h3 : ¬ K = 3) (h4 : ¬ K = 4) (r : Int) (hr : r = 2) (w : World) :
    Calls Tryz.prog 60 #[.agg #[.int .i64 K, .int .i64 n, .string s, .bool b, .int .i64 c]] w fun e w' => e = .returned (.int .i64 r) ∧ Below w.heap.size w w' := by
  have HR := Aside0.mk hr
  clear hr
  go_enter Tryz.func60, Tryz.ntmps60
  go_wp2
  all_goals go_ret
  all_goals refine ⟨?_, by repeat (first | exact Below.refl _ _ | refine bqN ?_ _ | refine bqD ?_ | refine below_set ?_ (by simp) | refine bqA ?_ _)⟩
  all_goals (have hr := HR.out; clear HR; simp_all; try omega)
theorem value_Check.calls (a0_0 : Int) (a0_1 : Int) (a0_2 : ByteArray) (a0_3 : Bool) (a0_4 : Int) (r : Int) (w : World) (h : value_Check.f a0_0 a0_1 a0_2 a0_3 a0_4 = some r) :
    Calls Tryz.prog 60 #[.agg #[.int .i64 a0_0, .int .i64 a0_1, .string a0_2, .bool a0_3, .int .i64 a0_4]] w fun e w' => e = .returned (.int .i64 r) ∧ Below w.heap.size w w' := by
  unfold value_Check.f at h
  by_cases k0 : a0_0 = 0
  · rw [if_pos k0] at h
    subst k0
    exact value_Check_0 _ _ _ _ _ (Option.some.inj h).symm w
  rw [if_neg k0] at h
  by_cases k1 : a0_0 = 1
  · rw [if_pos k1] at h
    subst k1
    obtain ⟨t, ht, h⟩ := Option.bind_eq_some_iff.mp h
    exact value_Check_1 _ _ _ _ t ht _ (Option.some.inj h).symm w
  rw [if_neg k1] at h
  by_cases k2 : a0_0 = 2
  · rw [if_pos k2] at h
    subst k2
    exact value_Check_2 _ _ _ _ _ (Option.some.inj h).symm w
  rw [if_neg k2] at h
  by_cases k3 : a0_0 = 3
  · rw [if_pos k3] at h
    subst k3
    exact value_Check_3 _ _ _ _ _ (Option.some.inj h).symm w
  rw [if_neg k3] at h
  by_cases k4 : a0_0 = 4
  · rw [if_pos k4] at h
    subst k4
    exact value_Check_4 _ _ _ _ _ (Option.some.inj h).symm w
  rw [if_neg k4] at h
  exact value_Check_5 _ _ _ _ a0_0 k0 k1 k2 k3 k4 _ (Option.some.inj h).symm w
end Go.Proofs.YtmppnobldhhpjaaGreatDoor.Pr
end
section
namespace Go.Proofs.YtmppnobldhhpjaaGreatDoor.Pr
open Go.RowKit Go.Proofs.YtmppnobldhhpjaaGreatDoorW.PrintWords Go.Proofs.YtmppnobldhhpjaaGreatDoorW.PrintLast Go.Proofs.YtmppnobldhhpjaaGreatDoorW.PrintMore
attribute [local go_sem] max2_int min2_int max_two min_two max_three min_three max_four min_four   -- for this text's walks alone
set_option linter.unusedVariables false
set_option linter.unusedSimpArgs false
def value_code.f (a0_0 : Int) (a0_1 : Int) (a0_2 : ByteArray) (a0_3 : Bool) (a0_4 : Int) : Option (Int) := (value_Check.f a0_0 a0_1 a0_2 a0_3 a0_4).bind fun t113 => (if t113 = 0 then (some a0_4) else (some 2))
set_option maxHeartbeats 8000000 in
set_option maxRecDepth 100000 in
theorem value_code.calls (a0_0 : Int) (a0_1 : Int) (a0_2 : ByteArray) (a0_3 : Bool) (a0_4 : Int) (r : Int) (w : World) (h : value_code.f a0_0 a0_1 a0_2 a0_3 a0_4 = some r) :
  Calls Tryz.prog 83 #[.agg #[.int .i64 a0_0, .int .i64 a0_1, .string a0_2, .bool a0_3, .int .i64 a0_4]] w fun e w' => e = .returned (.int .i64 r) ∧ Below w.heap.size w w' := by
 have hu39 := Tryz.underlying39
 have HB := Aside0.mk (Below.refl w.heap.size w)
 have H : ((value_Check.f a0_0 a0_1 a0_2 a0_3 a0_4).bind fun t113 => (if t113 = 0 then (some a0_4) else (some 2))) = some r := h
 clear h
 replace H := Option.bind_eq_some_iff.mp H
 obtain ⟨t113, A20, H⟩ := H
 replace H : (if t113 = 0 then (some a0_4) else (some 2)) = some r := H
 have A2 := Aside0.mk A20
 clear A20
 by_cases c3 : t113 = 0
 ·rw [if_pos c3] at H
  have c3b0 : (t113 == 0) = true := beq_iff_eq.mpr c3
  have c3b1 : (t113 != 0) = false := bne_eq_false_iff_eq.mpr c3
  clear c3
  obtain rfl := Option.some.inj H
  go_enter Tryz.func83, Tryz.ntmps83
  go_wp2_with (first | ((with_reducible refine gate_dst (N := 1) rfl ?_); refine box_event ?hg (N := 1) ?hd (cs := #[.int .i64 a0_0, .int .i64 a0_1, .string a0_2, .bool a0_3, .int .i64 a0_4]) (t := 39) ?hr ?_; (case hd => rfl); (case hg => rfl); (case hr => first | (go_simp; done) | (go_simp; rfl)); intro gb112 hg w4 hbox hb; have n0_ := Aside0.mk (below_step (by repeat (first | (with_reducible first | exact HB.out | apply bqA | apply bqN | apply bqD) | exact HB.out)) hb); have n1_ := Aside0.mk (hbox); have n2_ := Aside0.mk ((by rw [hg]; exact (below_size (by repeat (first | (with_reducible first | exact HB.out | apply bqA | apply bqN | apply bqD) | exact HB.out))) : w.heap.size ≤ gb112)); have n3_ := n2_; clear HB; have HB := n0_; have BK112 := n1_; have GW112 := n2_; have GE112 := n3_; clear n0_ n1_ n2_ n3_; clear hb hbox hg; obtain ⟨hcz5_0, hcz5_1, hcz5_2, hcz5_3, hcz5_4⟩ := cellsA_five BK112.out; obtain ⟨hfz5_0, hfz5_1, hfz5_2, hfz5_3, hfz5_4⟩ := frozA_five BK112.out) | ((with_reducible refine gate_callee (f := 60) rfl ?_); refine goesL_ (some 4) rfl rfl Tryz.func60 (by kernel_rfl) rfl #[.agg #[.int .i64 a0_0, .int .i64 a0_1, .string a0_2, .bool a0_3, .int .i64 a0_4]] rfl (by (try simp only [List.map_toArray, List.map_cons, List.map_nil]); first | done | rfl) ?_; (with_reducible refine (value_Check.calls a0_0 a0_1 a0_2 a0_3 a0_4 t113 _ A2.out).mono ?_); rintro e w6 ⟨rfl, hb⟩; refine ⟨_, rfl, ?_⟩; have n0_ := Aside0.mk (blk_below (g := gb112) (o := .cells #[.int .i64 a0_0, .int .i64 a0_1, .string a0_2, .bool a0_3, .int .i64 a0_4] 39 (0, 0)) (by (with_reducible repeat (first | refine bqZ ?_ _ | refine bqY ?_ | refine bqX ?_ _)); exact BK112.out) hb); have n1_ := Aside0.mk (below_step (by repeat (first | (with_reducible first | exact HB.out | apply bqA | apply bqN | apply bqD | refine below_set ?_ GE112.out) | exact HB.out)) hb); clear BK112; clear HB; have BK112 := n0_; have HB := n1_; clear n0_ n1_; (try clear hb); (try clear hb2); (try clear hk); (try clear hi); obtain ⟨hcz7_0, hcz7_1, hcz7_2, hcz7_3, hcz7_4⟩ := cellsA_five BK112.out; obtain ⟨hfz7_0, hfz7_1, hfz7_2, hfz7_3, hfz7_4⟩ := frozA_five BK112.out))
  go_ret
  exact ⟨by first | rfl | (simp [errW_none, errW_some] <;> rfl) | (simp [*, errW_none, errW_some] <;> rfl), by repeat (first | (with_reducible first | exact HB.out | apply bqA | apply bqN | apply bqD | refine below_set ?_ GE112.out) | exact HB.out)⟩
 ·rw [if_neg c3] at H
  have c3b0 : (t113 == 0) = false := beq_eq_false_iff_ne.mpr c3
  have c3b1 : (t113 != 0) = true := bne_iff_ne.mpr c3
  obtain rfl := Option.some.inj H
  go_enter Tryz.func83, Tryz.ntmps83
  go_wp2_with (first | ((with_reducible refine gate_dst (N := 1) rfl ?_); refine box_event ?hg (N := 1) ?hd (cs := #[.int .i64 a0_0, .int .i64 a0_1, .string a0_2, .bool a0_3, .int .i64 a0_4]) (t := 39) ?hr ?_; (case hd => rfl); (case hg => rfl); (case hr => first | (go_simp; done) | (go_simp; rfl)); intro gb112 hg w8 hbox hb; have n0_ := Aside0.mk (below_step (by repeat (first | (with_reducible first | exact HB.out | apply bqA | apply bqN | apply bqD) | exact HB.out)) hb); have n1_ := Aside0.mk (hbox); have n2_ := Aside0.mk ((by rw [hg]; exact (below_size (by repeat (first | (with_reducible first | exact HB.out | apply bqA | apply bqN | apply bqD) | exact HB.out))) : w.heap.size ≤ gb112)); have n3_ := n2_; clear HB; have HB := n0_; have BK112 := n1_; have GW112 := n2_; have GE112 := n3_; clear n0_ n1_ n2_ n3_; clear hb hbox hg; obtain ⟨hcz9_0, hcz9_1, hcz9_2, hcz9_3, hcz9_4⟩ := cellsA_five BK112.out; obtain ⟨hfz9_0, hfz9_1, hfz9_2, hfz9_3, hfz9_4⟩ := frozA_five BK112.out) | ((with_reducible refine gate_callee (f := 60) rfl ?_); refine goesL_ (some 4) rfl rfl Tryz.func60 (by kernel_rfl) rfl #[.agg #[.int .i64 a0_0, .int .i64 a0_1, .string a0_2, .bool a0_3, .int .i64 a0_4]] rfl (by (try simp only [List.map_toArray, List.map_cons, List.map_nil]); first | done | rfl) ?_; (with_reducible refine (value_Check.calls a0_0 a0_1 a0_2 a0_3 a0_4 t113 _ A2.out).mono ?_); rintro e w10 ⟨rfl, hb⟩; refine ⟨_, rfl, ?_⟩; have n0_ := Aside0.mk (blk_below (g := gb112) (o := .cells #[.int .i64 a0_0, .int .i64 a0_1, .string a0_2, .bool a0_3, .int .i64 a0_4] 39 (0, 0)) (by (with_reducible repeat (first | refine bqZ ?_ _ | refine bqY ?_ | refine bqX ?_ _)); exact BK112.out) hb); have n1_ := Aside0.mk (below_step (by repeat (first | (with_reducible first | exact HB.out | apply bqA | apply bqN | apply bqD | refine below_set ?_ GE112.out) | exact HB.out)) hb); clear BK112; clear HB; have BK112 := n0_; have HB := n1_; clear n0_ n1_; (try clear hb); (try clear hb2); (try clear hk); (try clear hi)))
  go_ret
  exact ⟨by first | rfl | (simp [errW_none, errW_some] <;> rfl) | (simp [*, errW_none, errW_some] <;> rfl), by repeat (first | (with_reducible first | exact HB.out | apply bqA | apply bqN | apply bqD | refine below_set ?_ GE112.out) | exact HB.out)⟩
def num_Print.f (a0 : Int) : Option (ByteArray × Int) := none
def num_Print.T5 : Bool × List (List Nat × List Nat) := (true, [([], []), ([], []), ([1], [1]), ([2], [2]), ([0, 3], [0, 3]), ([], []), ([], []), ([6], [6]), ([7], [7]), ([5, 8], [5, 8]), ([9], [9]), ([4, 10, 0, 1, 2, 3, 4], [4]), ([10, 11, 0, 1, 2, 3, 4, 5, 6, 7, 8, 9, 10, 11], [10])])
def num_Print.B5 : List Nat := [0, 0, 2, 6, 15, 0, 0, 64, 192, 480, 992, 2047, 4095]
theorem num_Print.tab5 : rtab .any (opsOf Tryz.f84 5) = num_Print.T5 := by kernel_rfl
theorem num_Print.bits5 : waitsOk num_Print.T5.2 num_Print.B5 = true := by kernel_rfl
theorem num_Print.calls (a0 : Int) (r1 : ByteArray) (r2 : Int) (w : World) (h : num_Print.f a0 = some (r1, r2)) (hL0 : Aside0 (LaidW w)) :
  Calls Tryz.prog 84 #[.int .i64 a0] w fun e w' => e = .returned (.tuple #[.string r1, .int .i64 r2]) ∧ Below w.heap.size w w' := by
 unfold num_Print.f at h
 cases h
def value_Words.f (a0_0 : Int) (a0_1 : Int) (a0_2 : ByteArray) (a0_3 : Bool) (a0_4 : Int) : Option (ByteArray × Int) := (value_code.f a0_0 a0_1 a0_2 a0_3 a0_4).bind fun t119 => (if t119 = 0 then (if a0_0 = 1 then ((num_Print.f a0_1).bind fun bt120 => (some (bt120.1, 0))) else (if a0_0 = 3 then (if a0_3 = true then (some ((⟨#[84, 82, 85, 69]⟩ : ByteArray), 0)) else (some ((⟨#[70, 65, 76, 83, 69]⟩ : ByteArray), 0))) else (some (a0_2, 0)))) else (some ((⟨#[]⟩ : ByteArray), t119)))
set_option maxHeartbeats 8000000 in
set_option maxRecDepth 100000 in
theorem value_Words.calls (a0_0 : Int) (a0_1 : Int) (a0_2 : ByteArray) (a0_3 : Bool) (a0_4 : Int) (r1 : ByteArray) (r2 : Int) (w : World) (h : value_Words.f a0_0 a0_1 a0_2 a0_3 a0_4 = some (r1, r2)) (hL0 : Aside0 (LaidW w)) :
  Calls Tryz.prog 61 #[.agg #[.int .i64 a0_0, .int .i64 a0_1, .string a0_2, .bool a0_3, .int .i64 a0_4]] w fun e w' => e = .returned (.tuple #[.string r1, .int .i64 r2]) ∧ Below w.heap.size w w' := by
 have hu39 := Tryz.underlying39
 have HB := Aside0.mk (Below.refl w.heap.size w)
 have H : ((value_code.f a0_0 a0_1 a0_2 a0_3 a0_4).bind fun t119 => (if t119 = 0 then (if a0_0 = 1 then ((num_Print.f a0_1).bind fun bt120 => (some (bt120.1, 0))) else (if a0_0 = 3 then (if a0_3 = true then (some ((⟨#[84, 82, 85, 69]⟩ : ByteArray), 0)) else (some ((⟨#[70, 65, 76, 83, 69]⟩ : ByteArray), 0))) else (some (a0_2, 0)))) else (some ((⟨#[]⟩ : ByteArray), t119)))) = some (r1, r2) := h
 clear h
 replace H := Option.bind_eq_some_iff.mp H
 obtain ⟨t119, A20, H⟩ := H
 replace H : (if t119 = 0 then (if a0_0 = 1 then ((num_Print.f a0_1).bind fun bt120 => (some (bt120.1, 0))) else (if a0_0 = 3 then (if a0_3 = true then (some ((⟨#[84, 82, 85, 69]⟩ : ByteArray), 0)) else (some ((⟨#[70, 65, 76, 83, 69]⟩ : ByteArray), 0))) else (some (a0_2, 0)))) else (some ((⟨#[]⟩ : ByteArray), t119))) = some (r1, r2) := H
 have A2 := Aside0.mk A20
 clear A20
 by_cases c3 : t119 = 0
 ·rw [if_pos c3] at H
  have c3b0 : (t119 == 0) = true := beq_iff_eq.mpr c3
  have c3b1 : (t119 != 0) = false := bne_eq_false_iff_eq.mpr c3
  clear c3
  by_cases c4 : a0_0 = 1
  ·rw [if_pos c4] at H
   have c4b0 : (a0_0 == 1) = true := beq_iff_eq.mpr c4
   have c4b1 : (a0_0 != 1) = false := bne_eq_false_iff_eq.mpr c4
   clear c4
   replace H := Option.bind_eq_some_iff.mp H
   obtain ⟨⟨t120, t121⟩, A50, H⟩ := H
   replace H : (some (t120, 0)) = some (r1, r2) := H
   have A5 := Aside0.mk A50
   clear A50
   simp only [Option.some.injEq, Prod.mk.injEq] at H
   obtain ⟨rfl, rfl⟩ := H
   go_enter Tryz.func61, Tryz.ntmps61
   go_wp2_with (first | ((with_reducible refine gate_dst (N := 1) rfl ?_); refine box_event ?hg (N := 1) ?hd (cs := #[.int .i64 a0_0, .int .i64 a0_1, .string a0_2, .bool a0_3, .int .i64 a0_4]) (t := 39) ?hr ?_; (case hd => rfl); (case hg => rfl); (case hr => first | (go_simp; done) | (go_simp; rfl)); intro gb118 hg w6 hbox hb; have n0_ := Aside0.mk (below_step (by repeat (first | (with_reducible first | exact HB.out | apply bqA | apply bqN | apply bqD) | exact HB.out)) hb); have n1_ := Aside0.mk (hbox); have n2_ := Aside0.mk ((by rw [hg]; exact (below_size (by repeat (first | (with_reducible first | exact HB.out | apply bqA | apply bqN | apply bqD) | exact HB.out))) : w.heap.size ≤ gb118)); have n3_ := n2_; clear HB; have HB := n0_; have BK118 := n1_; have GW118 := n2_; have GE118 := n3_; clear n0_ n1_ n2_ n3_; clear hb hbox hg; obtain ⟨hcz7_0, hcz7_1, hcz7_2, hcz7_3, hcz7_4⟩ := cellsA_five BK118.out; obtain ⟨hfz7_0, hfz7_1, hfz7_2, hfz7_3, hfz7_4⟩ := frozA_five BK118.out) | ((with_reducible refine gate_callee (f := 83) rfl ?_); refine goesL_ (some 8) rfl rfl Tryz.func83 (by kernel_rfl) rfl #[.agg #[.int .i64 a0_0, .int .i64 a0_1, .string a0_2, .bool a0_3, .int .i64 a0_4]] rfl (by (try simp only [List.map_toArray, List.map_cons, List.map_nil]); first | done | rfl) ?_; (with_reducible refine (value_code.calls a0_0 a0_1 a0_2 a0_3 a0_4 t119 _ A2.out).mono ?_); rintro e w8 ⟨rfl, hb⟩; refine ⟨_, rfl, ?_⟩; have n0_ := Aside0.mk (blk_below (g := gb118) (o := .cells #[.int .i64 a0_0, .int .i64 a0_1, .string a0_2, .bool a0_3, .int .i64 a0_4] 39 (0, 0)) (by (with_reducible repeat (first | refine bqZ ?_ _ | refine bqY ?_ | refine bqX ?_ _)); exact BK118.out) hb); have n1_ := Aside0.mk (below_step (by repeat (first | (with_reducible first | exact HB.out | apply bqA | apply bqN | apply bqD | refine below_set ?_ GE118.out) | exact HB.out)) hb); clear BK118; clear HB; have BK118 := n0_; have HB := n1_; clear n0_ n1_; (try clear hb); (try clear hb2); (try clear hk); (try clear hi); obtain ⟨hcz9_0, hcz9_1, hcz9_2, hcz9_3, hcz9_4⟩ := cellsA_five BK118.out; obtain ⟨hfz9_0, hfz9_1, hfz9_2, hfz9_3, hfz9_4⟩ := frozA_five BK118.out) | ((with_reducible refine gate_callee (f := 84) rfl ?_); refine goesL_ (some 19) rfl rfl Tryz.func84 (by kernel_rfl) rfl #[.int .i64 a0_1] rfl (by (try simp only [List.map_toArray, List.map_cons, List.map_nil]); first | done | rfl) ?_; (with_reducible refine (num_Print.calls a0_1 t120 t121 _ A5.out (LaidAt hL0 (by repeat (first | (with_reducible first | exact HB.out | apply bqA | apply bqN | apply bqD | refine below_set ?_ GE118.out) | exact HB.out)))).mono ?_); rintro e w10 ⟨rfl, hb⟩; refine ⟨_, rfl, ?_⟩; have n0_ := Aside0.mk (blk_below (g := gb118) (o := .cells #[.int .i64 a0_0, .int .i64 a0_1, .string a0_2, .bool a0_3, .int .i64 a0_4] 39 (0, 0)) (by (with_reducible repeat (first | refine bqZ ?_ _ | refine bqY ?_ | refine bqX ?_ _)); exact BK118.out) hb); have n1_ := Aside0.mk (below_step (by repeat (first | (with_reducible first | exact HB.out | apply bqA | apply bqN | apply bqD | refine below_set ?_ GE118.out) | exact HB.out)) hb); clear BK118; clear HB; have BK118 := n0_; have HB := n1_; clear n0_ n1_; (try clear hb); (try clear hb2); (try clear hk); (try clear hi)))
   go_ret2
   exact ⟨by first | rfl | (simp [errW_none, errW_some] <;> rfl) | (simp [*, errW_none, errW_some] <;> rfl), by repeat (first | (with_reducible first | exact HB.out | apply bqA | apply bqN | apply bqD | refine below_set ?_ GE118.out) | exact HB.out)⟩
  ·rw [if_neg c4] at H
   have c4b0 : (a0_0 == 1) = false := beq_eq_false_iff_ne.mpr c4
   have c4b1 : (a0_0 != 1) = true := bne_iff_ne.mpr c4
   by_cases c11 : a0_0 = 3
   ·rw [if_pos c11] at H
    have c11b0 : (a0_0 == 3) = true := beq_iff_eq.mpr c11
    have c11b1 : (a0_0 != 3) = false := bne_eq_false_iff_eq.mpr c11
    clear c11
    by_cases c12 : a0_3 = true
    ·subst c12
     have H1 : (some ((⟨#[84, 82, 85, 69]⟩ : ByteArray), 0)) = some (r1, r2) := by rw [if_pos rfl] at H; exact H
     clear H
     have H := H1
     clear H1
     simp only [Option.some.injEq, Prod.mk.injEq] at H
     obtain ⟨rfl, rfl⟩ := H
     go_enter Tryz.func61, Tryz.ntmps61
     go_wp2_with (first | ((with_reducible refine gate_dst (N := 1) rfl ?_); refine box_event ?hg (N := 1) ?hd (cs := #[.int .i64 a0_0, .int .i64 a0_1, .string a0_2, .bool true, .int .i64 a0_4]) (t := 39) ?hr ?_; (case hd => rfl); (case hg => rfl); (case hr => first | (go_simp; done) | (go_simp; rfl)); intro gb118 hg w13 hbox hb; have n0_ := Aside0.mk (below_step (by repeat (first | (with_reducible first | exact HB.out | apply bqA | apply bqN | apply bqD) | exact HB.out)) hb); have n1_ := Aside0.mk (hbox); have n2_ := Aside0.mk ((by rw [hg]; exact (below_size (by repeat (first | (with_reducible first | exact HB.out | apply bqA | apply bqN | apply bqD) | exact HB.out))) : w.heap.size ≤ gb118)); have n3_ := n2_; clear HB; have HB := n0_; have BK118 := n1_; have GW118 := n2_; have GE118 := n3_; clear n0_ n1_ n2_ n3_; clear hb hbox hg; obtain ⟨hcz14_0, hcz14_1, hcz14_2, hcz14_3, hcz14_4⟩ := cellsA_five BK118.out; obtain ⟨hfz14_0, hfz14_1, hfz14_2, hfz14_3, hfz14_4⟩ := frozA_five BK118.out) | ((with_reducible refine gate_callee (f := 83) rfl ?_); refine goesL_ (some 8) rfl rfl Tryz.func83 (by kernel_rfl) rfl #[.agg #[.int .i64 a0_0, .int .i64 a0_1, .string a0_2, .bool true, .int .i64 a0_4]] rfl (by (try simp only [List.map_toArray, List.map_cons, List.map_nil]); first | done | rfl) ?_; (with_reducible refine (value_code.calls a0_0 a0_1 a0_2 true a0_4 t119 _ A2.out).mono ?_); rintro e w15 ⟨rfl, hb⟩; refine ⟨_, rfl, ?_⟩; have n0_ := Aside0.mk (blk_below (g := gb118) (o := .cells #[.int .i64 a0_0, .int .i64 a0_1, .string a0_2, .bool true, .int .i64 a0_4] 39 (0, 0)) (by (with_reducible repeat (first | refine bqZ ?_ _ | refine bqY ?_ | refine bqX ?_ _)); exact BK118.out) hb); have n1_ := Aside0.mk (below_step (by repeat (first | (with_reducible first | exact HB.out | apply bqA | apply bqN | apply bqD | refine below_set ?_ GE118.out) | exact HB.out)) hb); clear BK118; clear HB; have BK118 := n0_; have HB := n1_; clear n0_ n1_; (try clear hb); (try clear hb2); (try clear hk); (try clear hi); obtain ⟨hcz16_0, hcz16_1, hcz16_2, hcz16_3, hcz16_4⟩ := cellsA_five BK118.out; obtain ⟨hfz16_0, hfz16_1, hfz16_2, hfz16_3, hfz16_4⟩ := frozA_five BK118.out))
     go_ret2
     exact ⟨by first | rfl | (simp [errW_none, errW_some] <;> rfl) | (simp [*, errW_none, errW_some] <;> rfl), by repeat (first | (with_reducible first | exact HB.out | apply bqA | apply bqN | apply bqD | refine below_set ?_ GE118.out) | exact HB.out)⟩
    ·replace c12 := Bool.eq_false_iff.mpr c12
     subst c12
     have H1 : (some ((⟨#[70, 65, 76, 83, 69]⟩ : ByteArray), 0)) = some (r1, r2) := by rw [if_neg (show ¬ (false = true) by decide)] at H; exact H
     clear H
     have H := H1
     clear H1
     simp only [Option.some.injEq, Prod.mk.injEq] at H
     obtain ⟨rfl, rfl⟩ := H
     go_enter Tryz.func61, Tryz.ntmps61
     go_wp2_with (first | ((with_reducible refine gate_dst (N := 1) rfl ?_); refine box_event ?hg (N := 1) ?hd (cs := #[.int .i64 a0_0, .int .i64 a0_1, .string a0_2, .bool false, .int .i64 a0_4]) (t := 39) ?hr ?_; (case hd => rfl); (case hg => rfl); (case hr => first | (go_simp; done) | (go_simp; rfl)); intro gb118 hg w17 hbox hb; have n0_ := Aside0.mk (below_step (by repeat (first | (with_reducible first | exact HB.out | apply bqA | apply bqN | apply bqD) | exact HB.out)) hb); have n1_ := Aside0.mk (hbox); have n2_ := Aside0.mk ((by rw [hg]; exact (below_size (by repeat (first | (with_reducible first | exact HB.out | apply bqA | apply bqN | apply bqD) | exact HB.out))) : w.heap.size ≤ gb118)); have n3_ := n2_; clear HB; have HB := n0_; have BK118 := n1_; have GW118 := n2_; have GE118 := n3_; clear n0_ n1_ n2_ n3_; clear hb hbox hg; obtain ⟨hcz18_0, hcz18_1, hcz18_2, hcz18_3, hcz18_4⟩ := cellsA_five BK118.out; obtain ⟨hfz18_0, hfz18_1, hfz18_2, hfz18_3, hfz18_4⟩ := frozA_five BK118.out) | ((with_reducible refine gate_callee (f := 83) rfl ?_); refine goesL_ (some 8) rfl rfl Tryz.func83 (by kernel_rfl) rfl #[.agg #[.int .i64 a0_0, .int .i64 a0_1, .string a0_2, .bool false, .int .i64 a0_4]] rfl (by (try simp only [List.map_toArray, List.map_cons, List.map_nil]); first | done | rfl) ?_; (with_reducible refine (value_code.calls a0_0 a0_1 a0_2 false a0_4 t119 _ A2.out).mono ?_); rintro e w19 ⟨rfl, hb⟩; refine ⟨_, rfl, ?_⟩; have n0_ := Aside0.mk (blk_below (g := gb118) (o := .cells #[.int .i64 a0_0, .int .i64 a0_1, .string a0_2, .bool false, .int .i64 a0_4] 39 (0, 0)) (by (with_reducible repeat (first | refine bqZ ?_ _ | refine bqY ?_ | refine bqX ?_ _)); exact BK118.out) hb); have n1_ := Aside0.mk (below_step (by repeat (first | (with_reducible first | exact HB.out | apply bqA | apply bqN | apply bqD | refine below_set ?_ GE118.out) | exact HB.out)) hb); clear BK118; clear HB; have BK118 := n0_; have HB := n1_; clear n0_ n1_; (try clear hb); (try clear hb2); (try clear hk); (try clear hi); obtain ⟨hcz20_0, hcz20_1, hcz20_2, hcz20_3, hcz20_4⟩ := cellsA_five BK118.out; obtain ⟨hfz20_0, hfz20_1, hfz20_2, hfz20_3, hfz20_4⟩ := frozA_five BK118.out))
     go_ret2
     exact ⟨by first | rfl | (simp [errW_none, errW_some] <;> rfl) | (simp [*, errW_none, errW_some] <;> rfl), by repeat (first | (with_reducible first | exact HB.out | apply bqA | apply bqN | apply bqD | refine below_set ?_ GE118.out) | exact HB.out)⟩
   ·rw [if_neg c11] at H
    have c11b0 : (a0_0 == 3) = false := beq_eq_false_iff_ne.mpr c11
    have c11b1 : (a0_0 != 3) = true := bne_iff_ne.mpr c11
    simp only [Option.some.injEq, Prod.mk.injEq] at H
    obtain ⟨rfl, rfl⟩ := H
    go_enter Tryz.func61, Tryz.ntmps61
    go_wp2_with (first | ((with_reducible refine gate_dst (N := 1) rfl ?_); refine box_event ?hg (N := 1) ?hd (cs := #[.int .i64 a0_0, .int .i64 a0_1, .string a0_2, .bool a0_3, .int .i64 a0_4]) (t := 39) ?hr ?_; (case hd => rfl); (case hg => rfl); (case hr => first | (go_simp; done) | (go_simp; rfl)); intro gb118 hg w21 hbox hb; have n0_ := Aside0.mk (below_step (by repeat (first | (with_reducible first | exact HB.out | apply bqA | apply bqN | apply bqD) | exact HB.out)) hb); have n1_ := Aside0.mk (hbox); have n2_ := Aside0.mk ((by rw [hg]; exact (below_size (by repeat (first | (with_reducible first | exact HB.out | apply bqA | apply bqN | apply bqD) | exact HB.out))) : w.heap.size ≤ gb118)); have n3_ := n2_; clear HB; have HB := n0_; have BK118 := n1_; have GW118 := n2_; have GE118 := n3_; clear n0_ n1_ n2_ n3_; clear hb hbox hg; obtain ⟨hcz22_0, hcz22_1, hcz22_2, hcz22_3, hcz22_4⟩ := cellsA_five BK118.out; obtain ⟨hfz22_0, hfz22_1, hfz22_2, hfz22_3, hfz22_4⟩ := frozA_five BK118.out) | ((with_reducible refine gate_callee (f := 83) rfl ?_); refine goesL_ (some 8) rfl rfl Tryz.func83 (by kernel_rfl) rfl #[.agg #[.int .i64 a0_0, .int .i64 a0_1, .string a0_2, .bool a0_3, .int .i64 a0_4]] rfl (by (try simp only [List.map_toArray, List.map_cons, List.map_nil]); first | done | rfl) ?_; (with_reducible refine (value_code.calls a0_0 a0_1 a0_2 a0_3 a0_4 t119 _ A2.out).mono ?_); rintro e w23 ⟨rfl, hb⟩; refine ⟨_, rfl, ?_⟩; have n0_ := Aside0.mk (blk_below (g := gb118) (o := .cells #[.int .i64 a0_0, .int .i64 a0_1, .string a0_2, .bool a0_3, .int .i64 a0_4] 39 (0, 0)) (by (with_reducible repeat (first | refine bqZ ?_ _ | refine bqY ?_ | refine bqX ?_ _)); exact BK118.out) hb); have n1_ := Aside0.mk (below_step (by repeat (first | (with_reducible first | exact HB.out | apply bqA | apply bqN | apply bqD | refine below_set ?_ GE118.out) | exact HB.out)) hb); clear BK118; clear HB; have BK118 := n0_; have HB := n1_; clear n0_ n1_; (try clear hb); (try clear hb2); (try clear hk); (try clear hi); obtain ⟨hcz24_0, hcz24_1, hcz24_2, hcz24_3, hcz24_4⟩ := cellsA_five BK118.out; obtain ⟨hfz24_0, hfz24_1, hfz24_2, hfz24_3, hfz24_4⟩ := frozA_five BK118.out))
    go_ret2
    exact ⟨by first | rfl | (simp [errW_none, errW_some] <;> rfl) | (simp [*, errW_none, errW_some] <;> rfl), by repeat (first | (with_reducible first | exact HB.out | apply bqA | apply bqN | apply bqD | refine below_set ?_ GE118.out) | exact HB.out)⟩
 ·rw [if_neg c3] at H
  have c3b0 : (t119 == 0) = false := beq_eq_false_iff_ne.mpr c3
  have c3b1 : (t119 != 0) = true := bne_iff_ne.mpr c3
  simp only [Option.some.injEq, Prod.mk.injEq] at H
  obtain ⟨rfl, rfl⟩ := H
  go_enter Tryz.func61, Tryz.ntmps61
  go_wp2_with (first | ((with_reducible refine gate_dst (N := 1) rfl ?_); refine box_event ?hg (N := 1) ?hd (cs := #[.int .i64 a0_0, .int .i64 a0_1, .string a0_2, .bool a0_3, .int .i64 a0_4]) (t := 39) ?hr ?_; (case hd => rfl); (case hg => rfl); (case hr => first | (go_simp; done) | (go_simp; rfl)); intro gb118 hg w25 hbox hb; have n0_ := Aside0.mk (below_step (by repeat (first | (with_reducible first | exact HB.out | apply bqA | apply bqN | apply bqD) | exact HB.out)) hb); have n1_ := Aside0.mk (hbox); have n2_ := Aside0.mk ((by rw [hg]; exact (below_size (by repeat (first | (with_reducible first | exact HB.out | apply bqA | apply bqN | apply bqD) | exact HB.out))) : w.heap.size ≤ gb118)); have n3_ := n2_; clear HB; have HB := n0_; have BK118 := n1_; have GW118 := n2_; have GE118 := n3_; clear n0_ n1_ n2_ n3_; clear hb hbox hg; obtain ⟨hcz26_0, hcz26_1, hcz26_2, hcz26_3, hcz26_4⟩ := cellsA_five BK118.out; obtain ⟨hfz26_0, hfz26_1, hfz26_2, hfz26_3, hfz26_4⟩ := frozA_five BK118.out) | ((with_reducible refine gate_callee (f := 83) rfl ?_); refine goesL_ (some 8) rfl rfl Tryz.func83 (by kernel_rfl) rfl #[.agg #[.int .i64 a0_0, .int .i64 a0_1, .string a0_2, .bool a0_3, .int .i64 a0_4]] rfl (by (try simp only [List.map_toArray, List.map_cons, List.map_nil]); first | done | rfl) ?_; (with_reducible refine (value_code.calls a0_0 a0_1 a0_2 a0_3 a0_4 t119 _ A2.out).mono ?_); rintro e w27 ⟨rfl, hb⟩; refine ⟨_, rfl, ?_⟩; have n0_ := Aside0.mk (blk_below (g := gb118) (o := .cells #[.int .i64 a0_0, .int .i64 a0_1, .string a0_2, .bool a0_3, .int .i64 a0_4] 39 (0, 0)) (by (with_reducible repeat (first | refine bqZ ?_ _ | refine bqY ?_ | refine bqX ?_ _)); exact BK118.out) hb); have n1_ := Aside0.mk (below_step (by repeat (first | (with_reducible first | exact HB.out | apply bqA | apply bqN | apply bqD | refine below_set ?_ GE118.out) | exact HB.out)) hb); clear BK118; clear HB; have BK118 := n0_; have HB := n1_; clear n0_ n1_; (try clear hb); (try clear hb2); (try clear hk); (try clear hi)))
  go_ret2
  exact ⟨by first | rfl | (simp [errW_none, errW_some] <;> rfl) | (simp [*, errW_none, errW_some] <;> rfl), by repeat (first | (with_reducible first | exact HB.out | apply bqA | apply bqN | apply bqD | refine below_set ?_ GE118.out) | exact HB.out)⟩
end Go.Proofs.YtmppnobldhhpjaaGreatDoor.Pr
end
