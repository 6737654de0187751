/-
  Lemmas for the law LexScansLexPairs.
-/
import Derived.Test.YtmppnobldhhpjaaGreatDoorSLexScansLexPairs4
import Derived.Test.YtmppnobldhhpjaaGreatDoorSLexScansLexPairs22
section
namespace Go.Proofs.YtmppnobldhhpjaaGreatDoor.Pr
open Go.RowKit Go.Proofs.YtmppnobldhhpjaaGreatDoorW.PrintWords Go.Proofs.YtmppnobldhhpjaaGreatDoorW.PrintLast Go.Proofs.YtmppnobldhhpjaaGreatDoorW.PrintMore
attribute [local go_sem] max2_int min2_int max_two min_two max_three min_three max_four min_four   -- for this text's walks alone
set_option linter.unusedVariables false
set_option linter.unusedSimpArgs false
mutual
def foolscapref05_Parse.j1 : Nat → ByteArray → Bool → Int → Option (Int × Int × Bool × Bool × Int)
 | 0, _, _, _ => none
 | k + 1, x0, x4, x5 => if 0 ≤ x5 then (if x5 ≤ (x0.size : Int) then ((foolscapref05_Column.f k (x0.extract 0 (x5 : Int).toNat)).bind fun bt158 => (if bt158.2 = 5 then (some (0, 0, false, false, 5)) else ((foolscapref05_dollar.f (x0.extract (x5 : Int).toNat x0.size)).bind fun bt160 => (if (bt160.1.size : Int) = 0 then (foolscapref05_Parse.j2 k bt160.1 x4 bt158.1 bt158.2 bt160.2 true) else (if (bt160.1.size : Int) > 7 then (foolscapref05_Parse.j2 k bt160.1 x4 bt158.1 bt158.2 bt160.2 true) else (if 0 < (bt160.1.size : Int) then (foolscapref05_Parse.j2 k bt160.1 x4 bt158.1 bt158.2 bt160.2 ((bt bt160.1 0) == 48)) else (none))))))) else (none)) else (none)
def foolscapref05_Parse.j2 : Nat → ByteArray → Bool → Int → Int → Bool → Bool → Option (Int × Int × Bool × Bool × Int)
 | 0, _, _, _, _, _, _ => none
 | k + 1, x0, x4, x6, x7, x8, x58 => if x58 = true then (some (0, 0, false, false, 5)) else (foolscapref05_Parse.l1 k x0 x4 x6 x7 x8 0 0)
def foolscapref05_Parse.l1 : Nat → ByteArray → Bool → Int → Int → Bool → Int → Int → Option (Int × Int × Bool × Bool × Int)
 | 0, _, _, _, _, _, _, _ => none
 | k + 1, x0, x4, x6, x7, x8, x9, x10 => if x10 < (x0.size : Int) then (if 0 ≤ x10 then (if (bt x0 x10) < 48 then (some (0, 0, false, false, 5)) else (if (bt x0 x10) > 57 then (some (0, 0, false, false, 5)) else (foolscapref05_Parse.l1 k x0 x4 x6 x7 x8 (wrap64 ((wrap64 (10 * x9)) + (((bt x0 x10) - 48) % 256))) (wrap64 (x10 + 1))))) else (none)) else (if x7 = 0 then (if x9 > 1048576 then (some (0, 0, false, false, 11)) else (some (x9, x6, x8, x4, 0))) else (some (0, 0, false, false, 11)))
def foolscapref05_Parse.l0 : Nat → ByteArray → Bool → Int → Option (Int × Int × Bool × Bool × Int)
 | 0, _, _, _ => none
 | k + 1, x0, x4, x5 => if x5 < (x0.size : Int) then (if 0 ≤ x5 then ((foolscapref05_letter.f k (bt x0 x5)).bind fun t157 => (if t157 > 0 then (foolscapref05_Parse.l0 k x0 x4 (wrap64 (x5 + 1))) else (foolscapref05_Parse.j1 k x0 x4 x5))) else (none)) else (foolscapref05_Parse.j1 k x0 x4 x5)
end
def foolscapref05_Parse.f (k : Nat) (a0 : ByteArray) : Option (Int × Int × Bool × Bool × Int) := (foolscapref05_dollar.f a0).bind fun bt155 => (foolscapref05_Parse.l0 k bt155.1 bt155.2 0)
set_option maxHeartbeats 8000000 in
set_option maxRecDepth 100000 in
theorem foolscapref05_Parse.calls (k : Nat) (a0 : ByteArray) (r1 : Int) (r2 : Int) (r3 : Bool) (r4 : Bool) (r5 : Int) (w : World) (h : foolscapref05_Parse.f k a0 = some (r1, r2, r3, r4, r5)) :
  Calls Tryz.prog 37 #[.string a0] w fun e w' => e = .returned (.tuple #[.agg #[.int .i64 r1, .int .i64 r2, .bool r3, .bool r4], .int .i64 r5]) ∧ Below w.heap.size w w' := by
 have hu43 := Tryz.underlying43
 have hu41 := Tryz.underlying41
 have HB := Aside0.mk (Below.refl w.heap.size w)
 have H : ((foolscapref05_dollar.f a0).bind fun bt155 => (foolscapref05_Parse.l0 k bt155.1 bt155.2 0)) = some (r1, r2, r3, r4, r5) := h
 clear h
 replace H := Option.bind_eq_some_iff.mp H
 obtain ⟨⟨t155, t156⟩, A20, H⟩ := H
 replace H : (foolscapref05_Parse.l0 k t155 t156 0) = some (r1, r2, r3, r4, r5) := H
 have A2 := Aside0.mk A20
 clear A20
 have HC3 := Aside0.mk H
 clear H
 go_enter Tryz.func37, Tryz.ntmps37
 go_upto_block 0 with (first | ((with_reducible refine gate_dst (N := 2) rfl ?_); (try (refine gate_guard (by rfl) ?_; dsimp only)); refine box_event ?hg (N := 2) ?hd (cs := #[.int .i64 0, .int .i64 0, .bool false, .bool false]) (t := 43) ?hr ?_; (case hd => rfl); (case hg => rfl); (case hr => first | (go_simp; done) | (go_simp; rfl)); intro gb154 hg w4 hbox hb; have n0_ := Aside0.mk (below_step (by repeat (first | (with_reducible first | exact HB.out | apply bqA | apply bqN | apply bqD) | exact HB.out)) hb); have n1_ := Aside0.mk (hbox); have n2_ := Aside0.mk ((by rw [hg]; exact (below_size (by repeat (first | (with_reducible first | exact HB.out | apply bqA | apply bqN | apply bqD) | exact HB.out))) : w.heap.size ≤ gb154)); have n3_ := n2_; clear HB; have HB := n0_; have BK154 := n1_; have GW154 := n2_; have GE154 := n3_; clear n0_ n1_ n2_ n3_; clear hb hbox hg) | ((with_reducible refine gate_callee (f := 50) rfl ?_); refine goesL_ (some 13) rfl rfl Tryz.func50 (by kernel_rfl) rfl #[.string a0] rfl (by (try simp only [List.map_toArray, List.map_cons, List.map_nil]); first | done | rfl) ?_; (with_reducible refine (foolscapref05_dollar.calls a0 t155 t156 _ A2.out).mono ?_); rintro e w' ⟨rfl, ⟨nd, rfl⟩⟩; refine ⟨_, rfl, ?_⟩))
 (try simp only [Act.put, List.setIfInBounds_toArray, List.set_cons_zero, List.set_cons_succ])
 go_cut [5] (fun v5 wc => ∃ (kq : Nat) (x5_2 : Int), v5 = .int .i64 x5_2 ∧ Aside0 (foolscapref05_Parse.j1 kq t155 t156 x5_2 = some (r1, r2, r3, r4, r5)) ∧ Aside0 (kq ≤ k) ∧ Aside0 (wc.heap[gb154]? = some (.cells #[.int .i64 0, .int .i64 0, .bool false, .bool false] 43 (0, 0))) ∧ Aside0 (Below w.heap.size w wc))
 case first =>
  have H := HC3.out
  clear HC3
  have H' := Aside0.mk H
  clear H
  go_wp2
  go_loopg [5] k (fun kq v5 w' => ∃ (x5_1 : Int), v5 = .int .i64 x5_1 ∧ Aside0 (foolscapref05_Parse.l0 kq t155 t156 x5_1 = some (r1, r2, r3, r4, r5)) ∧ Aside0 (kq ≤ k) ∧ Aside0 (w'.heap[gb154]? = some (.cells #[.int .i64 0, .int .i64 0, .bool false, .bool false] 43 (0, 0))) ∧ Aside0 (Below w.heap.size w w'))
  case atStart => exact ⟨(0), (by first | rfl | (simp; done) | (simp [*]; done)), H', ⟨Nat.le_refl _⟩, ⟨by (with_reducible repeat (first | refine bqZ ?_ _ | refine bqY ?_ | refine bqX ?_ _)); exact BK154.out⟩, ⟨by repeat (first | (with_reducible first | exact HB.out | apply bqA | apply bqN | apply bqD | refine below_set ?_ GE154.out) | exact HB.out)⟩⟩
  case round =>
   clear H'
   try clear p2
   try clear c3
   obtain ⟨x5_1, rfl, HA, HK1, BK154, HB⟩ := hrel
   cases gk with
   | zero => exact absurd HA.out (by simp [foolscapref05_Parse.l0])
   | succ k1 =>
    have H := HA.out
    clear HA
    simp only [foolscapref05_Parse.l0] at H
    by_cases c5 : x5_1 < (t155.size : Int)
    ·rw [if_pos c5] at H
     have c5b0 : decide (x5_1 < (t155.size : Int)) = true := decide_eq_true c5
     clear c5
     (first | rw [c5b0] | (simp only [i64_w, i32_w]; rw [c5b0]) | skip)
     by_cases c6 : 0 ≤ x5_1
     ·rw [if_pos c6] at H
      have c6b0 : decide (0 ≤ x5_1) = true := decide_eq_true c6
      clear c6
      replace H := Option.bind_eq_some_iff.mp H
      obtain ⟨t157, A80, H⟩ := H
      replace H : (if t157 > 0 then (foolscapref05_Parse.l0 k1 t155 t156 (wrap64 (x5_1 + 1))) else (foolscapref05_Parse.j1 k1 t155 t156 x5_1)) = some (r1, r2, r3, r4, r5) := H
      have A8 := Aside0.mk A80
      clear A80
      by_cases c9 : t157 > 0
      ·rw [if_pos c9] at H
       have c9b0 : decide (0 < t157) = true := decide_eq_true c9
       clear c9
       have H' := Aside0.mk H
       clear H
       have p7 : 0 ≤ (x5_1 : Int) := of_decide_eq_true (by first | (with_reducible assumption) | assumption)
       have q7 : x5_1 < (t155.size : Int) := of_decide_eq_true (by first | (with_reducible assumption) | assumption)
       have hx7 := bt_at t155 x5_1
       replace p7 := eq_true p7
       replace q7 := eq_true q7
       go_wp2_with (first | (go_at_call 51; (with_reducible refine (foolscapref05_letter.calls k1 (bt t155 x5_1) t157 _ A8.out).mono ?_); rintro e w' ⟨rfl, ⟨nd, rfl⟩⟩))
       go_roundg k1
       case measure => have := HK1.out; omega
       case rel => exact ⟨(wrap64 (x5_1 + 1)), (by first | rfl | (simp; done) | (simp [*]; done)), H', ⟨by have := HK1.out; omega⟩, ⟨by (with_reducible repeat (first | refine bqZ ?_ _ | refine bqY ?_ | refine bqX ?_ _)); exact BK154.out⟩, ⟨by repeat (first | (with_reducible first | exact HB.out | apply bqA | apply bqN | apply bqD | refine below_set ?_ GE154.out) | exact HB.out)⟩⟩
      ·rw [if_neg c9] at H
       have c9b0 : decide (0 < t157) = false := decide_eq_false c9
       clear c9
       have H' := Aside0.mk H
       clear H
       have p7 : 0 ≤ (x5_1 : Int) := of_decide_eq_true (by first | (with_reducible assumption) | assumption)
       have q7 : x5_1 < (t155.size : Int) := of_decide_eq_true (by first | (with_reducible assumption) | assumption)
       have hx7 := bt_at t155 x5_1
       replace p7 := eq_true p7
       replace q7 := eq_true q7
       go_wp2_with (first | (go_at_call 51; (with_reducible refine (foolscapref05_letter.calls k1 (bt t155 x5_1) t157 _ A8.out).mono ?_); rintro e w' ⟨rfl, ⟨nd, rfl⟩⟩))
       go_meet
       case rel => exact ⟨_, (x5_1), (by first | rfl | (simp; done) | (simp [*]; done)), H', ⟨by have := HK1.out; first | omega | exact Nat.le_refl _⟩, ⟨by (with_reducible repeat (first | refine bqZ ?_ _ | refine bqY ?_ | refine bqX ?_ _)); exact BK154.out⟩, ⟨by repeat (first | (with_reducible first | exact HB.out | apply bqA | apply bqN | apply bqD | refine below_set ?_ GE154.out) | exact HB.out)⟩⟩
     ·rw [if_neg c6] at H
      exact absurd H (by simp)
    ·rw [if_neg c5] at H
     have c5b0 : decide (x5_1 < (t155.size : Int)) = false := decide_eq_false c5
     clear c5
     (first | rw [c5b0] | (simp only [i64_w, i32_w]; rw [c5b0]) | skip)
     have H' := Aside0.mk H
     clear H
     go_wp2
     go_meet
     case rel => exact ⟨_, (x5_1), (by first | rfl | (simp; done) | (simp [*]; done)), H', ⟨by have := HK1.out; first | omega | exact Nat.le_refl _⟩, ⟨by (with_reducible repeat (first | refine bqZ ?_ _ | refine bqY ?_ | refine bqX ?_ _)); exact BK154.out⟩, ⟨by repeat (first | (with_reducible first | exact HB.out | apply bqA | apply bqN | apply bqD | refine below_set ?_ GE154.out) | exact HB.out)⟩⟩
 case rest =>
  clear HC3
  try clear p2
  try clear c3
  try clear c5
  try clear c5b0
  try clear c6
  try clear c6b0
  try clear p6
  try clear p7
  try clear q7
  try clear hx7
  try clear c9
  try clear c9b0
  try clear p2
  try clear p7
  try clear q7
  obtain ⟨kq, x5_2, rfl, HA, HJ2, BK154, HB⟩ := hcut
  cases kq with
  | zero => exact absurd HA.out (by simp [foolscapref05_Parse.j1])
  | succ kj2 =>
   have H := HA.out
   clear HA
   simp only [foolscapref05_Parse.j1] at H
   by_cases c10 : 0 ≤ x5_2
   ·rw [if_pos c10] at H
    have c10b0 := eq_true c10
    have c10b1 : decide (0 ≤ x5_2) = true := decide_eq_true c10
    clear c10
    by_cases c11 : x5_2 ≤ (t155.size : Int)
    ·rw [if_pos c11] at H
     have c11b0 := eq_true c11
     have c11b1 : decide (x5_2 ≤ (t155.size : Int)) = true := decide_eq_true c11
     clear c11
     replace H := Option.bind_eq_some_iff.mp H
     obtain ⟨⟨t158, t159⟩, A120, H⟩ := H
     replace H : (if t159 = 5 then (some (0, 0, false, false, 5)) else ((foolscapref05_dollar.f (t155.extract (x5_2 : Int).toNat t155.size)).bind fun bt160 => (if (bt160.1.size : Int) = 0 then (foolscapref05_Parse.j2 kj2 bt160.1 t156 t158 t159 bt160.2 true) else (if (bt160.1.size : Int) > 7 then (foolscapref05_Parse.j2 kj2 bt160.1 t156 t158 t159 bt160.2 true) else (if 0 < (bt160.1.size : Int) then (foolscapref05_Parse.j2 kj2 bt160.1 t156 t158 t159 bt160.2 ((bt bt160.1 0) == 48)) else (none)))))) = some (r1, r2, r3, r4, r5) := H
     have A12 := Aside0.mk A120
     clear A120
     by_cases c13 : t159 = 5
     ·rw [if_pos c13] at H
      have c13b0 : (t159 == 5) = true := beq_iff_eq.mpr c13
      have c13b1 : (t159 != 5) = false := bne_eq_false_iff_eq.mpr c13
      clear c13
      simp only [Option.some.injEq, Prod.mk.injEq] at H
      obtain ⟨rfl, rfl, rfl, rfl, rfl⟩ := H
      go_wp2_with (first | ((with_reducible refine gate_callee (f := 52) rfl ?_); refine goesL_ (some 33) rfl rfl Tryz.func52 (by kernel_rfl) rfl #[.string (t155.extract 0 (x5_2 : Int).toNat)] rfl (by (try simp only [List.map_toArray, List.map_cons, List.map_nil]); first | done | rfl | (simp only [List.length_drop, List.length_take]; rfl) | (simp only [ByteArray.size_append, Int.natCast_add]; done) | (simp only [ByteArray.size_append, Int.natCast_add]; rfl) | (simp only [Array.mk.injEq, List.cons.injEq, Value.int.injEq, true_and, and_true]; (try simp only [mx, mn, wrap64] at *); omega)) ?_; (with_reducible refine (foolscapref05_Column.calls kj2 (t155.extract 0 (x5_2 : Int).toNat) t158 t159 _ A12.out).mono ?_); rintro e w' ⟨rfl, ⟨nd, rfl⟩⟩; refine ⟨_, rfl, ?_⟩; (try (rw [drewN_self wc]; generalize hq_ : World.drewN wc _ = wc; have n0_ : Aside0 (wc.heap[gb154]? = some (.cells #[.int .i64 0, .int .i64 0, .bool false, .bool false] 43 (0, 0))) := ⟨by rw [← hq_]; exact (by (with_reducible repeat (first | refine bqZ ?_ _ | refine bqY ?_ | refine bqX ?_ _)); exact BK154.out)⟩; have n1_ : Aside0 (Below w.heap.size w wc) := ⟨by rw [← hq_]; exact (by repeat (first | (with_reducible first | exact HB.out | apply bqA | apply bqN | apply bqD | refine below_set ?_ GE154.out) | exact HB.out))⟩; clear BK154 HB hq_; have BK154 := n0_; have HB := n1_; clear n0_ n1_)); have hcz14_0 : wc.cell? ⟨gb154, 0, none⟩ = some (.int .i64 0) := (blk_cell BK154.out 0).trans rfl; have hcz14_1 : wc.cell? ⟨gb154, 1, none⟩ = some (.int .i64 0) := (blk_cell BK154.out 1).trans rfl; have hcz14_2 : wc.cell? ⟨gb154, 2, none⟩ = some (.bool false) := (blk_cell BK154.out 2).trans rfl; have hcz14_3 : wc.cell? ⟨gb154, 3, none⟩ = some (.bool false) := (blk_cell BK154.out 3).trans rfl; have hfz14_0 := blk_frozen BK154.out 0; have hfz14_1 := blk_frozen BK154.out 1; have hfz14_2 := blk_frozen BK154.out 2; have hfz14_3 := blk_frozen BK154.out 3))
      refine bodyPost_ret (results_ct rfl _ _ gb154 43 #[.int .i64 0, .int .i64 0, .bool false, .bool false] (0, 0) _ rfl (by (with_reducible repeat (first | refine bqZ ?_ _ | refine bqY ?_ | refine bqX ?_ _)); refine blk_put (cs := #[.int .i64 0, .int .i64 0, .bool false, .bool false]) ?_ 3 _ rfl; (with_reducible repeat (first | refine bqZ ?_ _ | refine bqY ?_ | refine bqX ?_ _)); refine blk_put (cs := #[.int .i64 0, .int .i64 0, .bool false, .bool false]) ?_ 2 _ rfl; (with_reducible repeat (first | refine bqZ ?_ _ | refine bqY ?_ | refine bqX ?_ _)); refine blk_put (cs := #[.int .i64 0, .int .i64 0, .bool false, .bool false]) ?_ 1 _ rfl; (with_reducible repeat (first | refine bqZ ?_ _ | refine bqY ?_ | refine bqX ?_ _)); refine blk_put (cs := #[.int .i64 0, .int .i64 0, .bool false, .bool false]) ?_ 0 _ rfl; (with_reducible repeat (first | refine bqZ ?_ _ | refine bqY ?_ | refine bqX ?_ _)); exact BK154.out) Tryz.underlying43 rfl (by kernel_rfl)) rfl ?_
      exact ⟨by first | rfl | (simp [errW_none, errW_some] <;> rfl) | (simp [*, errW_none, errW_some] <;> rfl), by repeat (first | (with_reducible first | exact HB.out | apply bqA | apply bqN | apply bqD | refine below_set ?_ GE154.out) | exact HB.out)⟩
     ·rw [if_neg c13] at H
      have c13b0 : (t159 == 5) = false := beq_eq_false_iff_ne.mpr c13
      have c13b1 : (t159 != 5) = true := bne_iff_ne.mpr c13
      have c15b0 := eq_true (of_decide_eq_true (by first | (with_reducible assumption) | assumption) : 0 ≤ x5_2)
      have c16b0 := eq_true (of_decide_eq_true (by first | (with_reducible assumption) | assumption) : x5_2 ≤ (t155.size : Int))
      replace H := Option.bind_eq_some_iff.mp H
      obtain ⟨⟨t160, t161⟩, A170, H⟩ := H
      replace H : (if (t160.size : Int) = 0 then (foolscapref05_Parse.j2 kj2 t160 t156 t158 t159 t161 true) else (if (t160.size : Int) > 7 then (foolscapref05_Parse.j2 kj2 t160 t156 t158 t159 t161 true) else (if 0 < (t160.size : Int) then (foolscapref05_Parse.j2 kj2 t160 t156 t158 t159 t161 ((bt t160 0) == 48)) else (none)))) = some (r1, r2, r3, r4, r5) := H
      have A17 := Aside0.mk A170
      clear A170
      have HC18 := Aside0.mk H
      clear H
      go_upto_region 9 with (first | ((with_reducible refine gate_callee (f := 52) rfl ?_); refine goesL_ (some 33) rfl rfl Tryz.func52 (by kernel_rfl) rfl #[.string (t155.extract 0 (x5_2 : Int).toNat)] rfl (by (try simp only [List.map_toArray, List.map_cons, List.map_nil]); first | done | rfl | (simp only [List.length_drop, List.length_take]; rfl) | (simp only [ByteArray.size_append, Int.natCast_add]; done) | (simp only [ByteArray.size_append, Int.natCast_add]; rfl) | (simp only [Array.mk.injEq, List.cons.injEq, Value.int.injEq, true_and, and_true]; (try simp only [mx, mn, wrap64] at *); omega)) ?_; (with_reducible refine (foolscapref05_Column.calls kj2 (t155.extract 0 (x5_2 : Int).toNat) t158 t159 _ A12.out).mono ?_); rintro e w' ⟨rfl, ⟨nd, rfl⟩⟩; refine ⟨_, rfl, ?_⟩) | ((with_reducible refine gate_callee (f := 50) rfl ?_); refine goesL_ (some 43) rfl rfl Tryz.func50 (by kernel_rfl) rfl #[.string (t155.extract (x5_2 : Int).toNat t155.size)] rfl (by (try simp only [List.map_toArray, List.map_cons, List.map_nil]); first | done | rfl | (simp only [List.length_drop, List.length_take]; rfl) | (simp only [ByteArray.size_append, Int.natCast_add]; done) | (simp only [ByteArray.size_append, Int.natCast_add]; rfl) | (simp only [Array.mk.injEq, List.cons.injEq, Value.int.injEq, true_and, and_true]; (try simp only [mx, mn, wrap64] at *); omega)) ?_; (with_reducible refine (foolscapref05_dollar.calls (t155.extract (x5_2 : Int).toNat t155.size) t160 t161 _ A17.out).mono ?_); rintro e w' ⟨rfl, ⟨nd, rfl⟩⟩; refine ⟨_, rfl, ?_⟩))
      (try simp only [Act.put, List.setIfInBounds_toArray, List.set_cons_zero, List.set_cons_succ])
      go_cut [58] (fun v58 wc => ∃ (kq : Nat) (x58_17 : Bool), v58 = .bool x58_17 ∧ Aside0 (foolscapref05_Parse.j2 kq t160 t156 t158 t159 t161 x58_17 = some (r1, r2, r3, r4, r5)) ∧ Aside0 (kq ≤ kj2) ∧ Aside0 (wc.heap[gb154]? = some (.cells #[.int .i64 0, .int .i64 0, .bool false, .bool false] 43 (0, 0))) ∧ Aside0 (Below w.heap.size w wc))
      case first =>
       have H := HC18.out
       clear HC18
       by_cases c19 : (t160.size : Int) = 0
       ·rw [if_pos c19] at H
        have c19b0 : ((t160.size : Int) == 0) = true := beq_iff_eq.mpr c19
        have c19b1 : ((t160.size : Int) != 0) = false := bne_eq_false_iff_eq.mpr c19
        clear c19
        (first | rw [c19b0] | (simp only [i64_w, i32_w]; rw [c19b0]) | skip)
        have H' := Aside0.mk H
        clear H
        go_wp2
        go_meet
        case rel => exact ⟨_, (true), (by first | rfl | (simp; done) | (simp [*]; done)), H', ⟨by have := HJ2.out; first | omega | exact Nat.le_refl _⟩, ⟨by (with_reducible repeat (first | refine bqZ ?_ _ | refine bqY ?_ | refine bqX ?_ _)); exact BK154.out⟩, ⟨by repeat (first | (with_reducible first | exact HB.out | apply bqA | apply bqN | apply bqD | refine below_set ?_ GE154.out) | exact HB.out)⟩⟩
       ·rw [if_neg c19] at H
        have c19b0 : ((t160.size : Int) == 0) = false := beq_eq_false_iff_ne.mpr c19
        have c19b1 : ((t160.size : Int) != 0) = true := bne_iff_ne.mpr c19
        (first | rw [c19b0] | (simp only [i64_w, i32_w]; rw [c19b0]) | skip)
        by_cases c20 : (t160.size : Int) > 7
        ·rw [if_pos c20] at H
         have c20b0 : decide (7 < (t160.size : Int)) = true := decide_eq_true c20
         have c20b1 : decide (7 < t160.size) = true := decide_eq_true (by omega)
         clear c20
         have H' := Aside0.mk H
         clear H
         go_wp2
         go_meet
         case rel => exact ⟨_, (true), (by first | rfl | (simp; done) | (simp [*]; done)), H', ⟨by have := HJ2.out; first | omega | exact Nat.le_refl _⟩, ⟨by (with_reducible repeat (first | refine bqZ ?_ _ | refine bqY ?_ | refine bqX ?_ _)); exact BK154.out⟩, ⟨by repeat (first | (with_reducible first | exact HB.out | apply bqA | apply bqN | apply bqD | refine below_set ?_ GE154.out) | exact HB.out)⟩⟩
        ·rw [if_neg c20] at H
         have c20b0 : decide (7 < (t160.size : Int)) = false := decide_eq_false c20
         have c20b1 : decide (7 < t160.size) = false := decide_eq_false (by omega)
         clear c20
         by_cases c21 : 0 < (t160.size : Int)
         ·rw [if_pos c21] at H
          have c21b0 : decide (0 < (t160.size : Int)) = true := decide_eq_true c21
          have c21b1 : decide (0 < t160.size) = true := decide_eq_true (by omega)
          clear c21
          have H' := Aside0.mk H
          clear H
          have p22 : 0 ≤ (0 : Int) := (by omega)
          have q22 : 0 < t160.size := (by have : (0 : Int) < (t160.size : Int) := of_decide_eq_true (by first | (with_reducible assumption) | assumption); omega)
          have hx22 : ∀ h : 0 < t160.size, ((t160[0]'h).toNat : Int) = bt t160 0 := bt_at t160 0
          clear p22
          have qi22 : (0 < (t160.size : Int)) = True := eq_true (of_decide_eq_true (by first | (with_reducible assumption) | assumption))
          replace q22 := eq_true q22
          go_wp2
          go_meet
          case rel => exact ⟨_, (((bt t160 0) == 48)), (by first | rfl | (simp; done) | (simp [*]; done)), H', ⟨by have := HJ2.out; first | omega | exact Nat.le_refl _⟩, ⟨by (with_reducible repeat (first | refine bqZ ?_ _ | refine bqY ?_ | refine bqX ?_ _)); exact BK154.out⟩, ⟨by repeat (first | (with_reducible first | exact HB.out | apply bqA | apply bqN | apply bqD | refine below_set ?_ GE154.out) | exact HB.out)⟩⟩
         ·rw [if_neg c21] at H
          exact absurd H (by simp)
      case rest =>
       clear HC18
       try clear c1
       try clear c2
       try clear p2
       try clear q2
       try clear hx2
       try clear qi2
       try clear c3
       try clear c5
       try clear c5b0
       try clear c6
       try clear c6b0
       try clear p6
       try clear p7
       try clear q7
       try clear hx7
       try clear c9
       try clear c9b0
       try clear c10
       try clear c10b0
       try clear c10b1
       try clear c11
       try clear c11b0
       try clear c11b1
       try clear c13
       try clear c13b0
       try clear c13b1
       try clear c15
       try clear c15b0
       try clear c16
       try clear c16b0
       try clear c19
       try clear c19b0
       try clear c19b1
       try clear c20
       try clear c20b0
       try clear c20b1
       try clear c21
       try clear c21b0
       try clear c21b1
       try clear p22
       try clear q22
       try clear hx22
       try clear qi22
       try clear hcz14_0
       try clear hcz14_1
       try clear hcz14_2
       try clear hcz14_3
       try clear hfz14_0
       try clear hfz14_1
       try clear hfz14_2
       try clear hfz14_3
       try clear p2
       try clear p22
       try clear p6
       try clear p7
       try clear q22
       try clear q7
       obtain ⟨kq, x58_17, rfl, HA, HJ17, BK154, HB⟩ := hcut
       cases kq with
       | zero => exact absurd HA.out (by simp [foolscapref05_Parse.j2])
       | succ kj17 =>
        have H := HA.out
        clear HA
        simp only [foolscapref05_Parse.j2] at H
        by_cases c23 : x58_17 = true
        ·subst c23
         have H1 : (some (0, 0, false, false, 5)) = some (r1, r2, r3, r4, r5) := by rw [if_pos rfl] at H; exact H
         clear H
         have H := H1
         clear H1
         simp only [Option.some.injEq, Prod.mk.injEq] at H
         obtain ⟨rfl, rfl, rfl, rfl, rfl⟩ := H
         have hcz24_0 : wc.cell? ⟨gb154, 0, none⟩ = some (.int .i64 0) := (blk_cell BK154.out 0).trans rfl
         have hcz24_1 : wc.cell? ⟨gb154, 1, none⟩ = some (.int .i64 0) := (blk_cell BK154.out 1).trans rfl
         have hcz24_2 : wc.cell? ⟨gb154, 2, none⟩ = some (.bool false) := (blk_cell BK154.out 2).trans rfl
         have hcz24_3 : wc.cell? ⟨gb154, 3, none⟩ = some (.bool false) := (blk_cell BK154.out 3).trans rfl
         have hfz24_0 := blk_frozen BK154.out 0
         have hfz24_1 := blk_frozen BK154.out 1
         have hfz24_2 := blk_frozen BK154.out 2
         have hfz24_3 := blk_frozen BK154.out 3
         go_wp2
         refine bodyPost_ret (results_ct rfl _ _ gb154 43 #[.int .i64 0, .int .i64 0, .bool false, .bool false] (0, 0) _ rfl (by (with_reducible repeat (first | refine bqZ ?_ _ | refine bqY ?_ | refine bqX ?_ _)); refine blk_put (cs := #[.int .i64 0, .int .i64 0, .bool false, .bool false]) ?_ 3 _ rfl; (with_reducible repeat (first | refine bqZ ?_ _ | refine bqY ?_ | refine bqX ?_ _)); refine blk_put (cs := #[.int .i64 0, .int .i64 0, .bool false, .bool false]) ?_ 2 _ rfl; (with_reducible repeat (first | refine bqZ ?_ _ | refine bqY ?_ | refine bqX ?_ _)); refine blk_put (cs := #[.int .i64 0, .int .i64 0, .bool false, .bool false]) ?_ 1 _ rfl; (with_reducible repeat (first | refine bqZ ?_ _ | refine bqY ?_ | refine bqX ?_ _)); refine blk_put (cs := #[.int .i64 0, .int .i64 0, .bool false, .bool false]) ?_ 0 _ rfl; (with_reducible repeat (first | refine bqZ ?_ _ | refine bqY ?_ | refine bqX ?_ _)); exact BK154.out) Tryz.underlying43 rfl (by kernel_rfl)) rfl ?_
         exact ⟨by first | rfl | (simp [errW_none, errW_some] <;> rfl) | (simp [*, errW_none, errW_some] <;> rfl), by repeat (first | (with_reducible first | exact HB.out | apply bqA | apply bqN | apply bqD | refine below_set ?_ GE154.out) | exact HB.out)⟩
        ·replace c23 := Bool.eq_false_iff.mpr c23
         subst c23
         have H1 : (foolscapref05_Parse.l1 kj17 t160 t156 t158 t159 t161 0 0) = some (r1, r2, r3, r4, r5) := by rw [if_neg (show ¬ (false = true) by decide)] at H; exact H
         clear H
         have H := H1
         clear H1
         have H' := Aside0.mk H
         clear H
         go_wp2
         go_loopg [9, 10] kj17 (fun kq v9 v10 w' => ∃ (x9_3 : Int) (x10_3 : Int) (x155000_3 : Int) (x155001_3 : Int) (x155002_3 : Bool) (x155003_3 : Bool), v9 = .int .i64 x9_3 ∧ v10 = .int .i64 x10_3 ∧ Aside0 (foolscapref05_Parse.l1 kq t160 t156 t158 t159 t161 x9_3 x10_3 = some (r1, r2, r3, r4, r5)) ∧ Aside0 (kq ≤ kj17) ∧ Aside0 (w'.heap[gb154]? = some (.cells #[.int .i64 x155000_3, .int .i64 x155001_3, .bool x155002_3, .bool x155003_3] 43 (0, 0))) ∧ Aside0 (Below w.heap.size w w'))
         case atStart => exact ⟨(0), (0), (0), (0), (false), (false), (by first | rfl | (simp; done) | (simp [*]; done)), (by first | rfl | (simp; done) | (simp [*]; done)), H', ⟨Nat.le_refl _⟩, ⟨by (with_reducible repeat (first | refine bqZ ?_ _ | refine bqY ?_ | refine bqX ?_ _)); exact BK154.out⟩, ⟨by repeat (first | (with_reducible first | exact HB.out | apply bqA | apply bqN | apply bqD | refine below_set ?_ GE154.out) | exact HB.out)⟩⟩
         case round =>
          clear H'
          try clear c1
          try clear c2
          try clear p2
          try clear q2
          try clear hx2
          try clear qi2
          try clear c3
          try clear c5
          try clear c5b0
          try clear c6
          try clear c6b0
          try clear p6
          try clear p7
          try clear q7
          try clear hx7
          try clear c9
          try clear c9b0
          try clear c10
          try clear c10b0
          try clear c10b1
          try clear c11
          try clear c11b0
          try clear c11b1
          try clear c13
          try clear c13b0
          try clear c13b1
          try clear c15
          try clear c15b0
          try clear c16
          try clear c16b0
          try clear c19
          try clear c19b0
          try clear c19b1
          try clear c20
          try clear c20b0
          try clear c20b1
          try clear c21
          try clear c21b0
          try clear c21b1
          try clear p22
          try clear q22
          try clear hx22
          try clear qi22
          try clear c23
          try clear hcz14_0
          try clear hcz14_1
          try clear hcz14_2
          try clear hcz14_3
          try clear hcz24_0
          try clear hcz24_1
          try clear hcz24_2
          try clear hcz24_3
          try clear hfz14_0
          try clear hfz14_1
          try clear hfz14_2
          try clear hfz14_3
          try clear hfz24_0
          try clear hfz24_1
          try clear hfz24_2
          try clear hfz24_3
          try clear p2
          try clear p22
          try clear p6
          try clear p7
          try clear q2
          try clear q22
          try clear q7
          obtain ⟨x9_3, x10_3, x155000_3, x155001_3, x155002_3, x155003_3, rfl, rfl, HA, HK3, BK154, HB⟩ := hrel
          cases gk with
          | zero => exact absurd HA.out (by simp [foolscapref05_Parse.l1])
          | succ k3 =>
           have H := HA.out
           clear HA
           simp only [foolscapref05_Parse.l1] at H
           by_cases c25 : x10_3 < (t160.size : Int)
           ·rw [if_pos c25] at H
            have c25b0 : decide (x10_3 < (t160.size : Int)) = true := decide_eq_true c25
            clear c25
            by_cases c26 : 0 ≤ x10_3
            ·rw [if_pos c26] at H
             have c26b0 : decide (0 ≤ x10_3) = true := decide_eq_true c26
             clear c26
             by_cases c28 : (bt t160 x10_3) < 48
             ·rw [if_pos c28] at H
              have c28b0 : decide ((bt t160 x10_3) < 48) = true := decide_eq_true c28
              clear c28
              simp only [Option.some.injEq, Prod.mk.injEq] at H
              obtain ⟨rfl, rfl, rfl, rfl, rfl⟩ := H
              have p27 : 0 ≤ (x10_3 : Int) := of_decide_eq_true (by first | (with_reducible assumption) | assumption)
              have q27 : x10_3 < (t160.size : Int) := of_decide_eq_true (by first | (with_reducible assumption) | assumption)
              have hx27 := bt_at t160 x10_3
              replace p27 := eq_true p27
              replace q27 := eq_true q27
              have hcz29_0 : wr.cell? ⟨gb154, 0, none⟩ = some (.int .i64 x155000_3) := (blk_cell BK154.out 0).trans rfl
              have hcz29_1 : wr.cell? ⟨gb154, 1, none⟩ = some (.int .i64 x155001_3) := (blk_cell BK154.out 1).trans rfl
              have hcz29_2 : wr.cell? ⟨gb154, 2, none⟩ = some (.bool x155002_3) := (blk_cell BK154.out 2).trans rfl
              have hcz29_3 : wr.cell? ⟨gb154, 3, none⟩ = some (.bool x155003_3) := (blk_cell BK154.out 3).trans rfl
              have hfz29_0 := blk_frozen BK154.out 0
              have hfz29_1 := blk_frozen BK154.out 1
              have hfz29_2 := blk_frozen BK154.out 2
              have hfz29_3 := blk_frozen BK154.out 3
              go_wp2
              refine bodyPost_ret (results_ct rfl _ _ gb154 43 #[.int .i64 0, .int .i64 0, .bool false, .bool false] (0, 0) _ rfl (by (with_reducible repeat (first | refine bqZ ?_ _ | refine bqY ?_ | refine bqX ?_ _)); refine blk_put (cs := #[.int .i64 0, .int .i64 0, .bool false, .bool x155003_3]) ?_ 3 _ rfl; (with_reducible repeat (first | refine bqZ ?_ _ | refine bqY ?_ | refine bqX ?_ _)); refine blk_put (cs := #[.int .i64 0, .int .i64 0, .bool x155002_3, .bool x155003_3]) ?_ 2 _ rfl; (with_reducible repeat (first | refine bqZ ?_ _ | refine bqY ?_ | refine bqX ?_ _)); refine blk_put (cs := #[.int .i64 0, .int .i64 x155001_3, .bool x155002_3, .bool x155003_3]) ?_ 1 _ rfl; (with_reducible repeat (first | refine bqZ ?_ _ | refine bqY ?_ | refine bqX ?_ _)); refine blk_put (cs := #[.int .i64 x155000_3, .int .i64 x155001_3, .bool x155002_3, .bool x155003_3]) ?_ 0 _ rfl; (with_reducible repeat (first | refine bqZ ?_ _ | refine bqY ?_ | refine bqX ?_ _)); exact BK154.out) Tryz.underlying43 rfl (by kernel_rfl)) rfl ?_
              exact ⟨by first | rfl | (simp [errW_none, errW_some] <;> rfl) | (simp [*, errW_none, errW_some] <;> rfl), by repeat (first | (with_reducible first | exact HB.out | apply bqA | apply bqN | apply bqD | refine below_set ?_ GE154.out) | exact HB.out)⟩
             ·rw [if_neg c28] at H
              have c28b0 : decide ((bt t160 x10_3) < 48) = false := decide_eq_false c28
              clear c28
              by_cases c31 : (bt t160 x10_3) > 57
              ·rw [if_pos c31] at H
               have c31b0 : decide (57 < (bt t160 x10_3)) = true := decide_eq_true c31
               clear c31
               simp only [Option.some.injEq, Prod.mk.injEq] at H
               obtain ⟨rfl, rfl, rfl, rfl, rfl⟩ := H
               have p27 : 0 ≤ (x10_3 : Int) := of_decide_eq_true (by first | (with_reducible assumption) | assumption)
               have q27 : x10_3 < (t160.size : Int) := of_decide_eq_true (by first | (with_reducible assumption) | assumption)
               have hx27 := bt_at t160 x10_3
               replace p27 := eq_true p27
               replace q27 := eq_true q27
               have p30 : 0 ≤ (x10_3 : Int) := of_decide_eq_true (by first | (with_reducible assumption) | assumption)
               have q30 : x10_3 < (t160.size : Int) := of_decide_eq_true (by first | (with_reducible assumption) | assumption)
               have hx30 := bt_at t160 x10_3
               replace p30 := eq_true p30
               replace q30 := eq_true q30
               have hcz32_0 : wr.cell? ⟨gb154, 0, none⟩ = some (.int .i64 x155000_3) := (blk_cell BK154.out 0).trans rfl
               have hcz32_1 : wr.cell? ⟨gb154, 1, none⟩ = some (.int .i64 x155001_3) := (blk_cell BK154.out 1).trans rfl
               have hcz32_2 : wr.cell? ⟨gb154, 2, none⟩ = some (.bool x155002_3) := (blk_cell BK154.out 2).trans rfl
               have hcz32_3 : wr.cell? ⟨gb154, 3, none⟩ = some (.bool x155003_3) := (blk_cell BK154.out 3).trans rfl
               have hfz32_0 := blk_frozen BK154.out 0
               have hfz32_1 := blk_frozen BK154.out 1
               have hfz32_2 := blk_frozen BK154.out 2
               have hfz32_3 := blk_frozen BK154.out 3
               go_wp2
               refine bodyPost_ret (results_ct rfl _ _ gb154 43 #[.int .i64 0, .int .i64 0, .bool false, .bool false] (0, 0) _ rfl (by (with_reducible repeat (first | refine bqZ ?_ _ | refine bqY ?_ | refine bqX ?_ _)); refine blk_put (cs := #[.int .i64 0, .int .i64 0, .bool false, .bool x155003_3]) ?_ 3 _ rfl; (with_reducible repeat (first | refine bqZ ?_ _ | refine bqY ?_ | refine bqX ?_ _)); refine blk_put (cs := #[.int .i64 0, .int .i64 0, .bool x155002_3, .bool x155003_3]) ?_ 2 _ rfl; (with_reducible repeat (first | refine bqZ ?_ _ | refine bqY ?_ | refine bqX ?_ _)); refine blk_put (cs := #[.int .i64 0, .int .i64 x155001_3, .bool x155002_3, .bool x155003_3]) ?_ 1 _ rfl; (with_reducible repeat (first | refine bqZ ?_ _ | refine bqY ?_ | refine bqX ?_ _)); refine blk_put (cs := #[.int .i64 x155000_3, .int .i64 x155001_3, .bool x155002_3, .bool x155003_3]) ?_ 0 _ rfl; (with_reducible repeat (first | refine bqZ ?_ _ | refine bqY ?_ | refine bqX ?_ _)); exact BK154.out) Tryz.underlying43 rfl (by kernel_rfl)) rfl ?_
               exact ⟨by first | rfl | (simp [errW_none, errW_some] <;> rfl) | (simp [*, errW_none, errW_some] <;> rfl), by repeat (first | (with_reducible first | exact HB.out | apply bqA | apply bqN | apply bqD | refine below_set ?_ GE154.out) | exact HB.out)⟩
              ·rw [if_neg c31] at H
               have c31b0 : decide (57 < (bt t160 x10_3)) = false := decide_eq_false c31
               clear c31
               have H' := Aside0.mk H
               clear H
               have p27 : 0 ≤ (x10_3 : Int) := of_decide_eq_true (by first | (with_reducible assumption) | assumption)
               have q27 : x10_3 < (t160.size : Int) := of_decide_eq_true (by first | (with_reducible assumption) | assumption)
               have hx27 := bt_at t160 x10_3
               replace p27 := eq_true p27
               replace q27 := eq_true q27
               have p30 : 0 ≤ (x10_3 : Int) := of_decide_eq_true (by first | (with_reducible assumption) | assumption)
               have q30 : x10_3 < (t160.size : Int) := of_decide_eq_true (by first | (with_reducible assumption) | assumption)
               have hx30 := bt_at t160 x10_3
               replace p30 := eq_true p30
               replace q30 := eq_true q30
               have p33 : 0 ≤ (x10_3 : Int) := of_decide_eq_true (by first | (with_reducible assumption) | assumption)
               have q33 : x10_3 < (t160.size : Int) := of_decide_eq_true (by first | (with_reducible assumption) | assumption)
               have hx33 := bt_at t160 x10_3
               replace p33 := eq_true p33
               replace q33 := eq_true q33
               go_wp2
               go_roundg k3
               case measure => have := HJ2.out; have := HJ17.out; have := HK3.out; omega
               case rel => exact ⟨(wrap64 ((wrap64 (10 * x9_3)) + (((bt t160 x10_3) - 48) % 256))), (wrap64 (x10_3 + 1)), (x155000_3), (x155001_3), (x155002_3), (x155003_3), (by first | rfl | (simp; done) | (simp [*]; done)), (by first | rfl | (simp; done) | (simp [*]; done)), H', ⟨by have := HJ2.out; have := HJ17.out; have := HK3.out; omega⟩, ⟨by (with_reducible repeat (first | refine bqZ ?_ _ | refine bqY ?_ | refine bqX ?_ _)); exact BK154.out⟩, ⟨by repeat (first | (with_reducible first | exact HB.out | apply bqA | apply bqN | apply bqD | refine below_set ?_ GE154.out) | exact HB.out)⟩⟩
            ·rw [if_neg c26] at H
             exact absurd H (by simp)
           ·rw [if_neg c25] at H
            have c25b0 : decide (x10_3 < (t160.size : Int)) = false := decide_eq_false c25
            clear c25
            by_cases c34 : t159 = 0
            ·rw [if_pos c34] at H
             have c34b0 : (t159 == 0) = true := beq_iff_eq.mpr c34
             have c34b1 : (t159 != 0) = false := bne_eq_false_iff_eq.mpr c34
             clear c34
             by_cases c35 : x9_3 > 1048576
             ·rw [if_pos c35] at H
              have c35b0 : decide (1048576 < x9_3) = true := decide_eq_true c35
              clear c35
              simp only [Option.some.injEq, Prod.mk.injEq] at H
              obtain ⟨rfl, rfl, rfl, rfl, rfl⟩ := H
              have hcz36_0 : wr.cell? ⟨gb154, 0, none⟩ = some (.int .i64 x155000_3) := (blk_cell BK154.out 0).trans rfl
              have hcz36_1 : wr.cell? ⟨gb154, 1, none⟩ = some (.int .i64 x155001_3) := (blk_cell BK154.out 1).trans rfl
              have hcz36_2 : wr.cell? ⟨gb154, 2, none⟩ = some (.bool x155002_3) := (blk_cell BK154.out 2).trans rfl
              have hcz36_3 : wr.cell? ⟨gb154, 3, none⟩ = some (.bool x155003_3) := (blk_cell BK154.out 3).trans rfl
              have hfz36_0 := blk_frozen BK154.out 0
              have hfz36_1 := blk_frozen BK154.out 1
              have hfz36_2 := blk_frozen BK154.out 2
              have hfz36_3 := blk_frozen BK154.out 3
              go_wp2
              refine bodyPost_ret (results_ct rfl _ _ gb154 43 #[.int .i64 0, .int .i64 0, .bool false, .bool false] (0, 0) _ rfl (by (with_reducible repeat (first | refine bqZ ?_ _ | refine bqY ?_ | refine bqX ?_ _)); refine blk_put (cs := #[.int .i64 0, .int .i64 0, .bool false, .bool x155003_3]) ?_ 3 _ rfl; (with_reducible repeat (first | refine bqZ ?_ _ | refine bqY ?_ | refine bqX ?_ _)); refine blk_put (cs := #[.int .i64 0, .int .i64 0, .bool x155002_3, .bool x155003_3]) ?_ 2 _ rfl; (with_reducible repeat (first | refine bqZ ?_ _ | refine bqY ?_ | refine bqX ?_ _)); refine blk_put (cs := #[.int .i64 0, .int .i64 x155001_3, .bool x155002_3, .bool x155003_3]) ?_ 1 _ rfl; (with_reducible repeat (first | refine bqZ ?_ _ | refine bqY ?_ | refine bqX ?_ _)); refine blk_put (cs := #[.int .i64 x155000_3, .int .i64 x155001_3, .bool x155002_3, .bool x155003_3]) ?_ 0 _ rfl; (with_reducible repeat (first | refine bqZ ?_ _ | refine bqY ?_ | refine bqX ?_ _)); exact BK154.out) Tryz.underlying43 rfl (by kernel_rfl)) rfl ?_
              exact ⟨by first | rfl | (simp [errW_none, errW_some] <;> rfl) | (simp [*, errW_none, errW_some] <;> rfl), by repeat (first | (with_reducible first | exact HB.out | apply bqA | apply bqN | apply bqD | refine below_set ?_ GE154.out) | exact HB.out)⟩
             ·rw [if_neg c35] at H
              have c35b0 : decide (1048576 < x9_3) = false := decide_eq_false c35
              clear c35
              simp only [Option.some.injEq, Prod.mk.injEq] at H
              obtain ⟨rfl, rfl, rfl, rfl, rfl⟩ := H
              have hcz37_0 : wr.cell? ⟨gb154, 0, none⟩ = some (.int .i64 x155000_3) := (blk_cell BK154.out 0).trans rfl
              have hcz37_1 : wr.cell? ⟨gb154, 1, none⟩ = some (.int .i64 x155001_3) := (blk_cell BK154.out 1).trans rfl
              have hcz37_2 : wr.cell? ⟨gb154, 2, none⟩ = some (.bool x155002_3) := (blk_cell BK154.out 2).trans rfl
              have hcz37_3 : wr.cell? ⟨gb154, 3, none⟩ = some (.bool x155003_3) := (blk_cell BK154.out 3).trans rfl
              have hfz37_0 := blk_frozen BK154.out 0
              have hfz37_1 := blk_frozen BK154.out 1
              have hfz37_2 := blk_frozen BK154.out 2
              have hfz37_3 := blk_frozen BK154.out 3
              go_wp2
              refine bodyPost_ret (results_ct rfl _ _ gb154 43 #[.int .i64 x9_3, .int .i64 t158, .bool t161, .bool t156] (0, 0) _ rfl (by (with_reducible repeat (first | refine bqZ ?_ _ | refine bqY ?_ | refine bqX ?_ _)); refine blk_put (cs := #[.int .i64 x9_3, .int .i64 t158, .bool t161, .bool x155003_3]) ?_ 3 _ rfl; (with_reducible repeat (first | refine bqZ ?_ _ | refine bqY ?_ | refine bqX ?_ _)); refine blk_put (cs := #[.int .i64 x9_3, .int .i64 t158, .bool x155002_3, .bool x155003_3]) ?_ 2 _ rfl; (with_reducible repeat (first | refine bqZ ?_ _ | refine bqY ?_ | refine bqX ?_ _)); refine blk_put (cs := #[.int .i64 x9_3, .int .i64 x155001_3, .bool x155002_3, .bool x155003_3]) ?_ 1 _ rfl; (with_reducible repeat (first | refine bqZ ?_ _ | refine bqY ?_ | refine bqX ?_ _)); refine blk_put (cs := #[.int .i64 x155000_3, .int .i64 x155001_3, .bool x155002_3, .bool x155003_3]) ?_ 0 _ rfl; (with_reducible repeat (first | refine bqZ ?_ _ | refine bqY ?_ | refine bqX ?_ _)); exact BK154.out) Tryz.underlying43 rfl (by kernel_rfl)) rfl ?_
              exact ⟨by first | rfl | (simp [errW_none, errW_some] <;> rfl) | (simp [*, errW_none, errW_some] <;> rfl), by repeat (first | (with_reducible first | exact HB.out | apply bqA | apply bqN | apply bqD | refine below_set ?_ GE154.out) | exact HB.out)⟩
            ·rw [if_neg c34] at H
             have c34b0 : (t159 == 0) = false := beq_eq_false_iff_ne.mpr c34
             have c34b1 : (t159 != 0) = true := bne_iff_ne.mpr c34
             simp only [Option.some.injEq, Prod.mk.injEq] at H
             obtain ⟨rfl, rfl, rfl, rfl, rfl⟩ := H
             have hcz38_0 : wr.cell? ⟨gb154, 0, none⟩ = some (.int .i64 x155000_3) := (blk_cell BK154.out 0).trans rfl
             have hcz38_1 : wr.cell? ⟨gb154, 1, none⟩ = some (.int .i64 x155001_3) := (blk_cell BK154.out 1).trans rfl
             have hcz38_2 : wr.cell? ⟨gb154, 2, none⟩ = some (.bool x155002_3) := (blk_cell BK154.out 2).trans rfl
             have hcz38_3 : wr.cell? ⟨gb154, 3, none⟩ = some (.bool x155003_3) := (blk_cell BK154.out 3).trans rfl
             have hfz38_0 := blk_frozen BK154.out 0
             have hfz38_1 := blk_frozen BK154.out 1
             have hfz38_2 := blk_frozen BK154.out 2
             have hfz38_3 := blk_frozen BK154.out 3
             go_wp2
             refine bodyPost_ret (results_ct rfl _ _ gb154 43 #[.int .i64 0, .int .i64 0, .bool false, .bool false] (0, 0) _ rfl (by (with_reducible repeat (first | refine bqZ ?_ _ | refine bqY ?_ | refine bqX ?_ _)); refine blk_put (cs := #[.int .i64 0, .int .i64 0, .bool false, .bool x155003_3]) ?_ 3 _ rfl; (with_reducible repeat (first | refine bqZ ?_ _ | refine bqY ?_ | refine bqX ?_ _)); refine blk_put (cs := #[.int .i64 0, .int .i64 0, .bool x155002_3, .bool x155003_3]) ?_ 2 _ rfl; (with_reducible repeat (first | refine bqZ ?_ _ | refine bqY ?_ | refine bqX ?_ _)); refine blk_put (cs := #[.int .i64 0, .int .i64 x155001_3, .bool x155002_3, .bool x155003_3]) ?_ 1 _ rfl; (with_reducible repeat (first | refine bqZ ?_ _ | refine bqY ?_ | refine bqX ?_ _)); refine blk_put (cs := #[.int .i64 x155000_3, .int .i64 x155001_3, .bool x155002_3, .bool x155003_3]) ?_ 0 _ rfl; (with_reducible repeat (first | refine bqZ ?_ _ | refine bqY ?_ | refine bqX ?_ _)); exact BK154.out) Tryz.underlying43 rfl (by kernel_rfl)) rfl ?_
             exact ⟨by first | rfl | (simp [errW_none, errW_some] <;> rfl) | (simp [*, errW_none, errW_some] <;> rfl), by repeat (first | (with_reducible first | exact HB.out | apply bqA | apply bqN | apply bqD | refine below_set ?_ GE154.out) | exact HB.out)⟩
    ·rw [if_neg c11] at H
     exact absurd H (by simp)
   ·rw [if_neg c10] at H
    exact absurd H (by simp)
end Go.Proofs.YtmppnobldhhpjaaGreatDoor.Pr
end
