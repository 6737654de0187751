/-
  Lemmas for the law FAllFTable.
-/
import Derived.Test.YtopdjokncbpghaaGreatDoorSFAllFTable5
import Derived.Test.YtopdjokncbpghaaGreatDoorSFAllFTable27
import Derived.Test.YtopdjokncbpghaaGreatDoorSFAllFTable18
import Derived.Test.YtopdjokncbpghaaGreatDoorSFAllFTable17
set_option maxHeartbeats 8000000
set_option maxRecDepth 100000
set_option linter.unusedVariables false
set_option linter.unusedSimpArgs false
section
namespace Go.Proofs.YtopdjokncbpghaaGreatDoor.Pr
open Go.RowKit Go.Proofs.YtopdjokncbpghaaGreatDoorW.PrintWords Go.Proofs.YtopdjokncbpghaaGreatDoorW.PrintLast Go.Proofs.YtopdjokncbpghaaGreatDoorW.PrintMore
attribute [local go_sem] max2_int min2_int max_two min_two max_three min_three max_four min_four   -- for this text's walks alone
def forms_Find.l0 : Nat → ByteArray → List (S68) → Int → Int → Option (ByteArray × Int × Int × List Int × Int)
 | 0, _, _, _, _ => none
 | k + 1, x0, x6, x7, x8 => if x8 < x7 then (if 0 ≤ x8 then (if x8 < (x6.length : Int) then ((strings_Fields.f ((rd_T68 x6 x8).f0)).bind fun t335 => ((slices_Contains_string_string.f k t335 x0).bind fun t338 => (if t338 = true then ((forms_group_form.f k ((rd_T68 x6 x8).f0) ((rd_T68 x6 x8).f1) ((rd_T68 x6 x8).f2) ((rd_T68 x6 x8).f3) x0).bind fun bt339 => (some (bt339.1, bt339.2.1, bt339.2.2.1, bt339.2.2.2, 0))) else (forms_Find.l0 k x0 x6 x7 (wrap64 (x8 + 1)))))) else (none)) else (none)) else (some ((⟨#[]⟩ : ByteArray), 0, 0, ([] : List Int), 8))
def forms_Find.f (k : Nat) (a0 : ByteArray) : Option (ByteArray × Int × Int × List Int × Int) := (forms_groups.f).bind fun t330 => (forms_Find.l0 k a0 t330 (t330.length : Int) 0)
theorem forms_Find.calls (k : Nat) (a0 : ByteArray) (r1 : ByteArray) (r2 : Int) (r3 : Int) (r4 : List Int) (r5 : Int) (w : World) (h : forms_Find.f k a0 = some (r1, r2, r3, r4, r5)) (hL0 : Aside0 (LaidW w)) :
  Calls Tryz.prog 10 #[.string a0] w fun e w' => ∃ v3_ : Value, e = .returned (.tuple #[.agg #[.string r1, .int .i64 r2, .int .i64 r3, v3_], .int .i64 r5]) ∧ Kd.R (Kd.int .i64) 62 w' w.heap.size (fun _ => True) v3_ r4 ∧ Below w.heap.size w w' := by
 have hu24 := Tryz.underlying24
 have hu68 := Tryz.underlying68
 have HB := Aside0.mk (Below.refl w.heap.size w)
 have H : ((forms_groups.f).bind fun t330 => (forms_Find.l0 k a0 t330 (t330.length : Int) 0)) = some (r1, r2, r3, r4, r5) := h
 clear h
 replace H := Option.bind_eq_some_iff.mp H
 obtain ⟨t330, A20, H⟩ := H
 replace H : (forms_Find.l0 k a0 t330 (t330.length : Int) 0) = some (r1, r2, r3, r4, r5) := H
 have A2 := Aside0.mk A20
 clear A20
 have H' := Aside0.mk H
 clear H
 go_enter Tryz.func10, Tryz.ntmps10
 go_wp2_with (first | ((with_reducible refine gate_dst (N := 2) rfl ?_); refine boxE 2 24 (#[.string (⟨#[]⟩ : ByteArray), .int .i64 0, .int .i64 0, .slice none 0 0]) ?_; intro gb329 hg w3 hbox hb; have n0_ := Aside0.mk (below_step (hbA) hb); have n1_ := Aside0.mk (hbox); have n2_ := Aside0.mk ((by rw [hg]; exact (below_size (hbA)) : w.heap.size ≤ gb329)); have n3_ := n2_; clear HB; have HB := n0_; have BK329 := n1_; have GW329 := n2_; have GE329 := n3_; clear n0_ n1_ n2_ n3_; clear hb hbox hg) | ((with_reducible refine gate_callee (f := 25) rfl ?_); refine goesL_ (some 6) rfl rfl Tryz.func25 (by kernel_rfl) rfl #[] rfl argA ?_; (with_reducible refine (forms_groups.calls  t330 _ A2.out).mono ?_); rintro e w4 ⟨v331, rfl, ho0, hb⟩; refine ⟨_, rfl, ?_⟩; have n0_ := Aside0.mk (Kd.R_lower ho0 (below_size (hbA))); have n1_ := Aside0.mk (blk_below (g := gb329) (o := .cells #[.string (⟨#[]⟩ : ByteArray), .int .i64 0, .int .i64 0, .slice none 0 0] 24 (0, 0)) (have bk_ := BK329.out; bkA) hb); have n2_ := Aside0.mk (below_step (hbA) hb); clear BK329; clear HB; have HO332 := n0_; have BK329 := n1_; have HB := n2_; clear n0_ n1_ n2_; (try clear hb); (try clear hb2); (try clear hk); (try clear hi); (try clear ho0); obtain ⟨Ao5, co5, eo5⟩ := Kd.R_slice HO332.out; subst eo5))
 go_loopg [8] k (fun kq v8 w' => ∃ (x8_1 : Int) (x330000_1 : ByteArray) (x330001_1 : Int) (x330002_1 : Int), v8 = .int .i64 x8_1 ∧ Aside0 (forms_Find.l0 kq a0 t330 (t330.length : Int) x8_1 = some (r1, r2, r3, r4, r5)) ∧ Aside0 (kq ≤ k) ∧ Aside0 (Kd.R k68 68 w' w.heap.size (fun _ => True) (.slice Ao5 t330.length co5) t330) ∧ Aside0 (w'.heap[gb329]? = some (.cells #[.string x330000_1, .int .i64 x330001_1, .int .i64 x330002_1, (.slice none 0 0)] 24 (0, 0))) ∧ Aside0 (Below w.heap.size w w'))
 case atStart => exact ⟨(0), ((⟨#[]⟩ : ByteArray)), (0), (0), (rflS), H', ⟨Nat.le_refl _⟩, ⟨by (with_reducible repeat (first | apply Kd.R_alloc | apply Kd.R_drewN | apply Kd.R_drew)); exact HO332.out⟩, ⟨have bk_ := BK329.out; bkA⟩, ⟨hbA⟩⟩
 case round =>
  clear H'
  try clear c1
  try clear c2
  try clear p2
  obtain ⟨x8_1, x330000_1, x330001_1, x330002_1, rfl, HA, HK1, HO_6, BK329, HB⟩ := hrel
  cases gk with
  | zero => exact absurd HA.out (by simp [forms_Find.l0])
  | succ k1 =>
   have H := HA.out
   clear HA
   simp only [forms_Find.l0] at H
   by_cases c6 : x8_1 < (t330.length : Int)
   ·rw [if_pos c6] at H
    have c6b0 : decide (x8_1 < (t330.length : Int)) = true := decide_eq_true c6
    clear c6
    by_cases c7 : 0 ≤ x8_1
    ·rw [if_pos c7] at H
     have c7b0 : decide (0 ≤ x8_1) = true := decide_eq_true c7
     clear c7
     by_cases c8 : x8_1 < (t330.length : Int)
     ·rw [if_pos c8] at H
      have c8b0 : decide (x8_1 < (t330.length : Int)) = true := decide_eq_true c8
      clear c8
      replace H := Option.bind_eq_some_iff.mp H
      obtain ⟨t335, A90, H⟩ := H
      replace H : ((slices_Contains_string_string.f k1 t335 a0).bind fun t338 => (if t338 = true then ((forms_group_form.f k1 ((rd_T68 t330 x8_1).f0) ((rd_T68 t330 x8_1).f1) ((rd_T68 t330 x8_1).f2) ((rd_T68 t330 x8_1).f3) a0).bind fun bt339 => (some (bt339.1, bt339.2.1, bt339.2.2.1, bt339.2.2.2, 0))) else (forms_Find.l0 k1 a0 t330 (t330.length : Int) (wrap64 (x8_1 + 1))))) = some (r1, r2, r3, r4, r5) := H
      have A9 := Aside0.mk A90
      clear A90
      replace H := Option.bind_eq_some_iff.mp H
      obtain ⟨t338, A100, H⟩ := H
      replace H : (if t338 = true then ((forms_group_form.f k1 ((rd_T68 t330 x8_1).f0) ((rd_T68 t330 x8_1).f1) ((rd_T68 t330 x8_1).f2) ((rd_T68 t330 x8_1).f3) a0).bind fun bt339 => (some (bt339.1, bt339.2.1, bt339.2.2.1, bt339.2.2.2, 0))) else (forms_Find.l0 k1 a0 t330 (t330.length : Int) (wrap64 (x8_1 + 1)))) = some (r1, r2, r3, r4, r5) := H
      have A10 := Aside0.mk A100
      clear A100
      by_cases c11 : t338 = true
      ·subst c11
       have H1 : ((forms_group_form.f k1 ((rd_T68 t330 x8_1).f0) ((rd_T68 t330 x8_1).f1) ((rd_T68 t330 x8_1).f2) ((rd_T68 t330 x8_1).f3) a0).bind fun bt339 => (some (bt339.1, bt339.2.1, bt339.2.2.1, bt339.2.2.2, 0))) = some (r1, r2, r3, r4, r5) := by rw [if_pos rfl] at H; exact H
       clear H
       have H := H1
       clear H1
       replace H := Option.bind_eq_some_iff.mp H
       obtain ⟨⟨t339, t340, t341, t342⟩, A120, H⟩ := H
       replace H : (some (t339, t340, t341, t342, 0)) = some (r1, r2, r3, r4, r5) := H
       have A12 := Aside0.mk A120
       clear A120
       simp only [Option.some.injEq, Prod.mk.injEq] at H
       obtain ⟨rfl, rfl, rfl, rfl, rfl⟩ := H
       have p333 : 0 ≤ (x8_1 : Int) := of_decide_eq_true kA
       have q333 : x8_1 < (t330.length : Int) := of_decide_eq_true kA
       obtain ⟨ad333, e333, hx333_0, hx333_1, hx333_2, hx333_3⟩ := at_T68 (Kd.R_reads' HO_6.out).2.2 x8_1 p333 q333
       cases e333
       replace p333 := eq_true p333
       replace q333 := eq_true q333
       go_wp2_with (first | ((with_reducible refine gate_dst (N := 5) rfl ?_); refine boxE 5 68 (#[.string (⟨#[]⟩ : ByteArray), .int .i64 0, .int .i64 0, .string (⟨#[]⟩ : ByteArray)]) ?_; intro gb334 hg w13 hbox hb; have n0_ := Aside0.mk (Kd.R_below (Kd.R_elderB (by (with_reducible repeat (first | apply Kd.R_alloc | apply Kd.R_drewN | apply Kd.R_drew)); exact HO_6.out) gb334 (Nat.le_of_eq hg.symm)) hb); have n1_ := Aside0.mk (blk_below (g := gb329) (o := .cells #[.string x330000_1, .int .i64 x330001_1, .int .i64 x330002_1, .slice none 0 0] 24 (0, 0)) (have bk_ := BK329.out; bkA) hb); have n2_ := Aside0.mk (below_step (hbA) hb); have n3_ := Aside0.mk (hbox); have n4_ := Aside0.mk ((by rw [hg]; exact (below_size (hbA)) : w.heap.size ≤ gb334)); have n5_ := n4_; have n6_ := Aside0.mk ((by rw [hg]; exact Nat.ne_of_lt (blk_lt (g := gb329) (o := .cells #[.string x330000_1, .int .i64 x330001_1, .int .i64 x330002_1, .slice none 0 0] 24 (0, 0)) (have bk_ := BK329.out; bkA)) : gb329 ≠ gb334)); have n7_ := Aside0.mk n6_.out.symm; clear HO_6; clear BK329; clear HB; have HO_6 := n0_; have BK329 := n1_; have HB := n2_; have BK334 := n3_; have GW334 := n4_; have GE334 := n5_; have NB329_334 := n6_; have NB334_329 := n7_; clear n0_ n1_ n2_ n3_ n4_ n5_ n6_ n7_; clear hb hbox hg; have hnb14 := NB334_329.out; have hnc14 := NB329_334.out; obtain ⟨hcz15_0, hcz15_1, hcz15_2, hcz15_3⟩ := cellsA4 BK334.out; obtain ⟨hfz15_0, hfz15_1, hfz15_2, hfz15_3⟩ := frozA4 BK334.out) | ((with_reducible refine gate_callee (f := 27) rfl ?_); refine goesL_ (some 14) rfl rfl Tryz.func27 (by kernel_rfl) rfl #[.string ((rd_T68 t330 x8_1).f0)] rfl argA ?_; (with_reducible refine (strings_Fields.calls ((rd_T68 t330 x8_1).f0) t335 _ A9.out (LaidAt hL0 (hbA))).mono ?_); rintro e w16 ⟨v336, rfl, ho0, hb⟩; refine ⟨_, rfl, ?_⟩; have n0_ := Aside0.mk (Kd.R_below (by (with_reducible repeat (first | apply Kd.R_alloc | apply Kd.R_drewN | apply Kd.R_drew)); exact (Kd.R_mono (Kd.R_far (p := ⟨gb334, 3, none⟩) (Kd.R_far (p := ⟨gb334, 2, none⟩) (Kd.R_far (p := ⟨gb334, 1, none⟩) (Kd.R_far (p := ⟨gb334, 0, none⟩) (Kd.R_mono HO_6.out (fun k_ hk => (⟨hk, hk.2⟩ : _ ∧ k_ ≠ gb334))) (fun _ hk => hk.2) (.string ((rd_T68 t330 x8_1).f0))) (fun _ hk => hk.2) (.int .i64 ((rd_T68 t330 x8_1).f1))) (fun _ hk => hk.2) (.int .i64 ((rd_T68 t330 x8_1).f2))) (fun _ hk => hk.2) (.string ((rd_T68 t330 x8_1).f3))) (fun _ h_ => h_.1))) hb); have n1_ := Aside0.mk (Kd.R_lower ho0 (below_size (hbA))); have n2_ := Aside0.mk (blk_below (g := gb329) (o := .cells #[.string x330000_1, .int .i64 x330001_1, .int .i64 x330002_1, .slice none 0 0] 24 (0, 0)) (by (with_reducible repeat (first | refine bqZ ?_ _ | refine bqY ?_ | refine bqX ?_ _)); refine blk_far ?_ NB329_334.out _; (with_reducible repeat (first | refine bqZ ?_ _ | refine bqY ?_ | refine bqX ?_ _)); refine blk_far ?_ NB329_334.out _; (with_reducible repeat (first | refine bqZ ?_ _ | refine bqY ?_ | refine bqX ?_ _)); refine blk_far ?_ NB329_334.out _; (with_reducible repeat (first | refine bqZ ?_ _ | refine bqY ?_ | refine bqX ?_ _)); refine blk_far ?_ NB329_334.out _; exact (have bk_ := BK329.out; bkA)) hb); have n3_ := Aside0.mk (blk_below (g := gb334) (o := .cells #[.string ((rd_T68 t330 x8_1).f0), .int .i64 ((rd_T68 t330 x8_1).f1), .int .i64 ((rd_T68 t330 x8_1).f2), .string ((rd_T68 t330 x8_1).f3)] 68 (0, 0)) (by (with_reducible repeat (first | refine bqZ ?_ _ | refine bqY ?_ | refine bqX ?_ _)); refine put4 (.string (⟨#[]⟩ : ByteArray)) (.int .i64 0) (.int .i64 0) (.string (⟨#[]⟩ : ByteArray)) ?_; exact (have bk_ := BK334.out; bkA)) hb); have n4_ := Aside0.mk (below_step (hbA) hb); clear HO_6; clear BK329; clear BK334; clear HB; have HO_6 := n0_; have HO337 := n1_; have BK329 := n2_; have BK334 := n3_; have HB := n4_; clear n0_ n1_ n2_ n3_ n4_; (try clear hb); (try clear hb2); (try clear hk); (try clear hi); (try clear ho0); obtain ⟨Ao17, co17, eo17⟩ := Kd.R_slice HO337.out; subst eo17) | ((with_reducible refine gate_callee (f := 26) rfl ?_); refine goesL_ (some 16) rfl rfl Tryz.func26 (by kernel_rfl) rfl #[.slice Ao17 t335.length co17, .string a0] rfl argA ?_; (with_reducible refine (slices_Contains_string_string.calls k1 _ _ t335 a0 true _ ?side1 ?side2 A10.out).mono ?_); (case side1 => repeat (first | exact (Kd.R_reads' HO337.out).2.2 | (with_reducible refine Kd.C_alloc ?_ _) | (with_reducible refine Kd.C_drewN ?_ _) | (with_reducible refine Kd.C_drew ?_))); (case side2 => exact (Kd.R_reads' HO337.out).2.1); rintro e w' ⟨rfl, ⟨nd, rfl⟩⟩; refine ⟨_, rfl, ?_⟩; (try (rw [drewN_self w16]; generalize hq_ : World.drewN w16 _ = w16; have n0_ : Aside0 (Kd.R Kd.string 9 w16 w.heap.size (fun _ => True) (.slice Ao17 t335.length co17) t335) := ⟨by rw [← hq_]; exact (by (with_reducible repeat (first | apply Kd.R_alloc | apply Kd.R_drewN | apply Kd.R_drew)); exact HO337.out)⟩; have n1_ : Aside0 (Kd.R k68 68 w16 w.heap.size (fun k_ => k_ ≠ gb334) (.slice (some ad333) t330.length co5) t330) := ⟨by rw [← hq_]; exact (by (with_reducible repeat (first | apply Kd.R_alloc | apply Kd.R_drewN | apply Kd.R_drew)); exact Kd.R_mono HO_6.out (fun _ hk => hk.2))⟩; have n2_ : Aside0 (w16.heap[gb329]? = some (.cells #[.string x330000_1, .int .i64 x330001_1, .int .i64 x330002_1, .slice none 0 0] 24 (0, 0))) := ⟨by rw [← hq_]; exact (have bk_ := BK329.out; bkA)⟩; have n3_ : Aside0 (w16.heap[gb334]? = some (.cells #[.string ((rd_T68 t330 x8_1).f0), .int .i64 ((rd_T68 t330 x8_1).f1), .int .i64 ((rd_T68 t330 x8_1).f2), .string ((rd_T68 t330 x8_1).f3)] 68 (0, 0))) := ⟨by rw [← hq_]; exact (have bk_ := BK334.out; bkA)⟩; have n4_ : Aside0 (Below w.heap.size w w16) := ⟨by rw [← hq_]; exact (hbA)⟩; clear HO337 HO_6 BK329 BK334 HB hq_; have HO337 := n0_; have HO_6 := n1_; have BK329 := n2_; have BK334 := n3_; have HB := n4_; clear n0_ n1_ n2_ n3_ n4_)); obtain ⟨hcz18_0, hcz18_1, hcz18_2, hcz18_3⟩ := cellsA4 BK334.out; obtain ⟨hfz18_0, hfz18_1, hfz18_2, hfz18_3⟩ := frozA4 BK334.out) | ((with_reducible refine gate_callee (f := 28) rfl ?_); refine goesL_ (some 19) rfl rfl Tryz.func28 (by kernel_rfl) rfl #[.agg #[.string ((rd_T68 t330 x8_1).f0), .int .i64 ((rd_T68 t330 x8_1).f1), .int .i64 ((rd_T68 t330 x8_1).f2), .string ((rd_T68 t330 x8_1).f3)], .string a0] rfl argA ?_; (with_reducible refine (forms_group_form.calls k1 ((rd_T68 t330 x8_1).f0) ((rd_T68 t330 x8_1).f1) ((rd_T68 t330 x8_1).f2) ((rd_T68 t330 x8_1).f3) a0 t339 t340 t341 t342 _ A12.out).mono ?_); rintro e w19 ⟨v343, rfl, ho0, hb⟩; refine ⟨_, rfl, ?_⟩; have n0_ := Aside0.mk (Kd.R_below (by (with_reducible repeat (first | apply Kd.R_alloc | apply Kd.R_drewN | apply Kd.R_drew)); exact HO_6.out) hb); have n1_ := Aside0.mk (Kd.R_below (by (with_reducible repeat (first | apply Kd.R_alloc | apply Kd.R_drewN | apply Kd.R_drew)); exact HO337.out) hb); have n2_ := Aside0.mk (Kd.R_lower ho0 (below_size (hbA))); have n3_ := Aside0.mk (blk_below (g := gb329) (o := .cells #[.string x330000_1, .int .i64 x330001_1, .int .i64 x330002_1, .slice none 0 0] 24 (0, 0)) (have bk_ := BK329.out; bkA) hb); have n4_ := Aside0.mk (blk_below (g := gb334) (o := .cells #[.string ((rd_T68 t330 x8_1).f0), .int .i64 ((rd_T68 t330 x8_1).f1), .int .i64 ((rd_T68 t330 x8_1).f2), .string ((rd_T68 t330 x8_1).f3)] 68 (0, 0)) (have bk_ := BK334.out; bkA) hb); have n5_ := Aside0.mk (below_step (hbA) hb); clear HO_6; clear HO337; clear BK329; clear BK334; clear HB; have HO_6 := n0_; have HO337 := n1_; have HO344 := n2_; have BK329 := n3_; have BK334 := n4_; have HB := n5_; clear n0_ n1_ n2_ n3_ n4_ n5_; (try clear hb); (try clear hb2); (try clear hk); (try clear hi); (try clear ho0); obtain ⟨hcz20_0, hcz20_1, hcz20_2, hcz20_3⟩ := cellsA4 BK329.out; obtain ⟨hfz20_0, hfz20_1, hfz20_2, hfz20_3⟩ := frozA4 BK329.out; obtain ⟨Ao21, co21, eo21⟩ := Kd.R_slice HO344.out; subst eo21))
       refine bodyPost_ret (results_ct rfl _ _ gb329 24 #[.string t339, .int .i64 t340, .int .i64 t341, .slice Ao21 t342.length co21] (0, 0) _ rfl (by (with_reducible repeat (first | refine bqZ ?_ _ | refine bqY ?_ | refine bqX ?_ _)); refine put4 (.string x330000_1) (.int .i64 x330001_1) (.int .i64 x330002_1) (.slice none 0 0) ?_; exact (have bk_ := BK329.out; bkA)) Tryz.underlying24 rfl (by kernel_rfl)) rfl ?_
       exact ⟨_, rflE, by (with_reducible repeat (first | apply Kd.R_alloc | apply Kd.R_drewN | apply Kd.R_drew)); exact Kd.R_mono (Kd.R_far (p := ⟨gb329, 3, none⟩) (Kd.R_far (p := ⟨gb329, 2, none⟩) (Kd.R_far (p := ⟨gb329, 1, none⟩) (Kd.R_far (p := ⟨gb329, 0, none⟩) (Kd.R_types HO344.out BK329.out (by decide)) (fun _ hk => hk.2) (.string t339)) (fun _ hk => hk.2) (.int .i64 t340)) (fun _ hk => hk.2) (.int .i64 t341)) (fun _ hk => hk.2) (.slice Ao21 t342.length co21)) (fun _ hk => trivial), hbA⟩
      ·replace c11 := Bool.eq_false_iff.mpr c11
       subst c11
       have H1 : (forms_Find.l0 k1 a0 t330 (t330.length : Int) (wrap64 (x8_1 + 1))) = some (r1, r2, r3, r4, r5) := by rw [if_neg (show ¬ (false = true) by decide)] at H; exact H
       clear H
       have H := H1
       clear H1
       have H' := Aside0.mk H
       clear H
       have p333 : 0 ≤ (x8_1 : Int) := of_decide_eq_true kA
       have q333 : x8_1 < (t330.length : Int) := of_decide_eq_true kA
       obtain ⟨ad333, e333, hx333_0, hx333_1, hx333_2, hx333_3⟩ := at_T68 (Kd.R_reads' HO_6.out).2.2 x8_1 p333 q333
       cases e333
       replace p333 := eq_true p333
       replace q333 := eq_true q333
       go_wp2_with (first | ((with_reducible refine gate_dst (N := 5) rfl ?_); refine boxE 5 68 (#[.string (⟨#[]⟩ : ByteArray), .int .i64 0, .int .i64 0, .string (⟨#[]⟩ : ByteArray)]) ?_; intro gb334 hg w22 hbox hb; have n0_ := Aside0.mk (Kd.R_below (Kd.R_elderB (by (with_reducible repeat (first | apply Kd.R_alloc | apply Kd.R_drewN | apply Kd.R_drew)); exact HO_6.out) gb334 (Nat.le_of_eq hg.symm)) hb); have n1_ := Aside0.mk (blk_below (g := gb329) (o := .cells #[.string x330000_1, .int .i64 x330001_1, .int .i64 x330002_1, .slice none 0 0] 24 (0, 0)) (have bk_ := BK329.out; bkA) hb); have n2_ := Aside0.mk (below_step (hbA) hb); have n3_ := Aside0.mk (hbox); have n4_ := Aside0.mk ((by rw [hg]; exact (below_size (hbA)) : w.heap.size ≤ gb334)); have n5_ := n4_; have n6_ := Aside0.mk ((by rw [hg]; exact Nat.ne_of_lt (blk_lt (g := gb329) (o := .cells #[.string x330000_1, .int .i64 x330001_1, .int .i64 x330002_1, .slice none 0 0] 24 (0, 0)) (have bk_ := BK329.out; bkA)) : gb329 ≠ gb334)); have n7_ := Aside0.mk n6_.out.symm; clear HO_6; clear BK329; clear HB; have HO_6 := n0_; have BK329 := n1_; have HB := n2_; have BK334 := n3_; have GW334 := n4_; have GE334 := n5_; have NB329_334 := n6_; have NB334_329 := n7_; clear n0_ n1_ n2_ n3_ n4_ n5_ n6_ n7_; clear hb hbox hg; have hnb23 := NB334_329.out; have hnc23 := NB329_334.out; obtain ⟨hcz24_0, hcz24_1, hcz24_2, hcz24_3⟩ := cellsA4 BK334.out; obtain ⟨hfz24_0, hfz24_1, hfz24_2, hfz24_3⟩ := frozA4 BK334.out) | ((with_reducible refine gate_callee (f := 27) rfl ?_); refine goesL_ (some 14) rfl rfl Tryz.func27 (by kernel_rfl) rfl #[.string ((rd_T68 t330 x8_1).f0)] rfl argA ?_; (with_reducible refine (strings_Fields.calls ((rd_T68 t330 x8_1).f0) t335 _ A9.out (LaidAt hL0 (hbA))).mono ?_); rintro e w25 ⟨v336, rfl, ho0, hb⟩; refine ⟨_, rfl, ?_⟩; have n0_ := Aside0.mk (Kd.R_below (by (with_reducible repeat (first | apply Kd.R_alloc | apply Kd.R_drewN | apply Kd.R_drew)); exact (Kd.R_mono (Kd.R_far (p := ⟨gb334, 3, none⟩) (Kd.R_far (p := ⟨gb334, 2, none⟩) (Kd.R_far (p := ⟨gb334, 1, none⟩) (Kd.R_far (p := ⟨gb334, 0, none⟩) (Kd.R_mono HO_6.out (fun k_ hk => (⟨hk, hk.2⟩ : _ ∧ k_ ≠ gb334))) (fun _ hk => hk.2) (.string ((rd_T68 t330 x8_1).f0))) (fun _ hk => hk.2) (.int .i64 ((rd_T68 t330 x8_1).f1))) (fun _ hk => hk.2) (.int .i64 ((rd_T68 t330 x8_1).f2))) (fun _ hk => hk.2) (.string ((rd_T68 t330 x8_1).f3))) (fun _ h_ => h_.1))) hb); have n1_ := Aside0.mk (Kd.R_lower ho0 (below_size (hbA))); have n2_ := Aside0.mk (blk_below (g := gb329) (o := .cells #[.string x330000_1, .int .i64 x330001_1, .int .i64 x330002_1, .slice none 0 0] 24 (0, 0)) (by (with_reducible repeat (first | refine bqZ ?_ _ | refine bqY ?_ | refine bqX ?_ _)); refine blk_far ?_ NB329_334.out _; (with_reducible repeat (first | refine bqZ ?_ _ | refine bqY ?_ | refine bqX ?_ _)); refine blk_far ?_ NB329_334.out _; (with_reducible repeat (first | refine bqZ ?_ _ | refine bqY ?_ | refine bqX ?_ _)); refine blk_far ?_ NB329_334.out _; (with_reducible repeat (first | refine bqZ ?_ _ | refine bqY ?_ | refine bqX ?_ _)); refine blk_far ?_ NB329_334.out _; exact (have bk_ := BK329.out; bkA)) hb); have n3_ := Aside0.mk (blk_below (g := gb334) (o := .cells #[.string ((rd_T68 t330 x8_1).f0), .int .i64 ((rd_T68 t330 x8_1).f1), .int .i64 ((rd_T68 t330 x8_1).f2), .string ((rd_T68 t330 x8_1).f3)] 68 (0, 0)) (by (with_reducible repeat (first | refine bqZ ?_ _ | refine bqY ?_ | refine bqX ?_ _)); refine put4 (.string (⟨#[]⟩ : ByteArray)) (.int .i64 0) (.int .i64 0) (.string (⟨#[]⟩ : ByteArray)) ?_; exact (have bk_ := BK334.out; bkA)) hb); have n4_ := Aside0.mk (below_step (hbA) hb); clear HO_6; clear BK329; clear BK334; clear HB; have HO_6 := n0_; have HO337 := n1_; have BK329 := n2_; have BK334 := n3_; have HB := n4_; clear n0_ n1_ n2_ n3_ n4_; (try clear hb); (try clear hb2); (try clear hk); (try clear hi); (try clear ho0); obtain ⟨Ao26, co26, eo26⟩ := Kd.R_slice HO337.out; subst eo26) | ((with_reducible refine gate_callee (f := 26) rfl ?_); refine goesL_ (some 16) rfl rfl Tryz.func26 (by kernel_rfl) rfl #[.slice Ao26 t335.length co26, .string a0] rfl argA ?_; (with_reducible refine (slices_Contains_string_string.calls k1 _ _ t335 a0 false _ ?side1 ?side2 A10.out).mono ?_); (case side1 => repeat (first | exact (Kd.R_reads' HO337.out).2.2 | (with_reducible refine Kd.C_alloc ?_ _) | (with_reducible refine Kd.C_drewN ?_ _) | (with_reducible refine Kd.C_drew ?_))); (case side2 => exact (Kd.R_reads' HO337.out).2.1); rintro e w' ⟨rfl, ⟨nd, rfl⟩⟩; refine ⟨_, rfl, ?_⟩))
       go_roundg k1
       case measure => have := HK1.out; omega
       case rel => exact ⟨(wrap64 (x8_1 + 1)), (x330000_1), (x330001_1), (x330002_1), (rflS), H', ⟨by have := HK1.out; omega⟩, ⟨by (with_reducible repeat (first | apply Kd.R_alloc | apply Kd.R_drewN | apply Kd.R_drew)); exact Kd.R_mono HO_6.out (fun _ hk => trivial)⟩, ⟨have bk_ := BK329.out; bkA⟩, ⟨hbA⟩⟩
     ·rw [if_neg c8] at H
      exact absurd H (by simp)
    ·rw [if_neg c7] at H
     exact absurd H (by simp)
   ·rw [if_neg c6] at H
    have c6b0 : decide (x8_1 < (t330.length : Int)) = false := decide_eq_false c6
    clear c6
    simp only [Option.some.injEq, Prod.mk.injEq] at H
    obtain ⟨rfl, rfl, rfl, rfl, rfl⟩ := H
    obtain ⟨hcz27_0, hcz27_1, hcz27_2, hcz27_3⟩ := cellsA4 BK329.out
    obtain ⟨hfz27_0, hfz27_1, hfz27_2, hfz27_3⟩ := frozA4 BK329.out
    go_wp2
    refine bodyPost_ret (results_ct rfl _ _ gb329 24 #[.string (⟨#[]⟩ : ByteArray), .int .i64 0, .int .i64 0, .slice none 0 0] (0, 0) _ rfl (by (with_reducible repeat (first | refine bqZ ?_ _ | refine bqY ?_ | refine bqX ?_ _)); refine put4 (.string x330000_1) (.int .i64 x330001_1) (.int .i64 x330002_1) (.slice none 0 0) ?_; exact (have bk_ := BK329.out; bkA)) Tryz.underlying24 rfl (by kernel_rfl)) rfl ?_
    exact ⟨_, rflE, by first | exact Kd.R_nil _ _ _ _ _ | exact Kd.N_nil _ _ _ _ _ | exact Kd.V_nil _ _ _ _ _ | exact Kd.Q_nil _ _ _ _ _ | exact Kd.S_nil _ _ _ _ _, hbA⟩
end Go.Proofs.YtopdjokncbpghaaGreatDoor.Pr
end
