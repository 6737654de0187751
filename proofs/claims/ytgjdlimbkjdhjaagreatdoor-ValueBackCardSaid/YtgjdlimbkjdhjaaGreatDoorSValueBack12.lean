/-
  What the law ValueBack leans on, out of the texts that were printed and written for this seat: only what its proof mentions (gathered by a program of the author's).
-/
import Derived.Test.YtgjdlimbkjdhjaaGreatDoorSValueBack4
import Derived.Test.YtgjdlimbkjdhjaaGreatDoorSValueBack10
import Derived.Test.YtgjdlimbkjdhjaaGreatDoorSValueBack5
import Derived.Test.YtgjdlimbkjdhjaaGreatDoorSValueBack8
import Derived.Test.YtgjdlimbkjdhjaaGreatDoorSValueBack9
import Derived.Test.YtgjdlimbkjdhjaaGreatDoorSValueBack11
import Derived.Below
import Derived.Laws.NewBlocks
import Derived.LoopTactic
import Derived.WalkKit
section
namespace Go.Proofs.YtgjdlimbkjdhjaaGreatDoor.Pr
open Go.RowKit Go.Proofs.YtgjdlimbkjdhjaaGreatDoorW.PrintWords Go.Proofs.YtgjdlimbkjdhjaaGreatDoorW.PrintLast Go.Proofs.YtgjdlimbkjdhjaaGreatDoorW.PrintMore
attribute [local go_sem] max2_int min2_int max_two min_two max_three min_three max_four min_four   -- for this text's walks alone
set_option linter.unusedVariables false
set_option linter.unusedSimpArgs false
mutual
def value_Compare.j0 : Nat → Bool → Int → Int → ByteArray → Bool → Int → Int → Int → ByteArray → Bool → Int → Option (Int × Int)
  | 0, _, _, _, _, _, _, _, _, _, _, _ => none
  | k + 1, x14, x168000, x168001, x168002, x168003, x168004, x169000, x169001, x169002, x169003, x169004 => if x14 = true then (some (0, 2)) else ((api_Code.f k (([x168004, x169004] : List Int))).bind fun t174 => (if t174 = 0 then (if x168000 = 0 then (value_Compare.j1 k x169000 x168001 x168002 x168003 x168004 x169000 x169001 x169002 x169003 x169004) else (value_Compare.j1 k x168000 x168001 x168002 x168003 x168004 x169000 x169001 x169002 x169003 x169004)) else (some (0, t174))))
def value_Compare.j1 : Nat → Int → Int → ByteArray → Bool → Int → Int → Int → ByteArray → Bool → Int → Option (Int × Int)
  | 0, _, _, _, _, _, _, _, _, _, _ => none
  | k + 1, x168000, x168001, x168002, x168003, x168004, x169000, x169001, x169002, x169003, x169004 => if x169000 = 0 then (value_Compare.j2 k x168000 x168001 x168002 x168003 x168004 x168000 x169001 x169002 x169003 x169004) else (value_Compare.j2 k x168000 x168001 x168002 x168003 x168004 x169000 x169001 x169002 x169003 x169004)
def value_Compare.j2 : Nat → Int → Int → ByteArray → Bool → Int → Int → Int → ByteArray → Bool → Int → Option (Int × Int)
  | 0, _, _, _, _, _, _, _, _, _, _ => none
  | k + 1, x168000, x168001, x168002, x168003, x168004, x169000, x169001, x169002, x169003, x169004 => (api_Kind_42.f x168000 x169000).bind fun t175 => ((cmp_Compare_int.f x168001 x169001).bind fun t176 => ((value_Fold.f x168002).bind fun t177 => ((value_Fold.f x169002).bind fun t178 => ((strings_Compare.f t177 t178).bind fun t179 => ((value_rank.f x168003).bind fun t180 => ((value_rank.f x169003).bind fun t181 => ((cmp_Compare_int.f t180 t181).bind fun t182 => ((cmp_Or_int.f k (([t175, t176, t179, t182] : List Int))).bind fun t186 => (some (t186, 0))))))))))
end
def value_Compare.f (k : Nat) (a0_0 : Int) (a0_1 : Int) (a0_2 : ByteArray) (a0_3 : Bool) (a0_4 : Int) (a1_0 : Int) (a1_1 : Int) (a1_2 : ByteArray) (a1_3 : Bool) (a1_4 : Int) : Option (Int × Int) := (value_Check.f a0_0 a0_1 a0_2 a0_3 a0_4).bind fun t169 => (if t169 = 0 then ((value_Check.f a1_0 a1_1 a1_2 a1_3 a1_4).bind fun t170 => (value_Compare.j0 k (t170 != 0) a0_0 a0_1 a0_2 a0_3 a0_4 a1_0 a1_1 a1_2 a1_3 a1_4)) else (value_Compare.j0 k true a0_0 a0_1 a0_2 a0_3 a0_4 a1_0 a1_1 a1_2 a1_3 a1_4))
def value_Compare.T10 : Bool × List (List Nat × List Nat) := (true, [([], []), ([0], [0]), ([], []), ([2], [2]), ([1, 3], [1, 3]), ([], []), ([5], [5]), ([], []), ([7], [7]), ([6, 8, 4], [6, 8]), ([], []), ([10], [10]), ([11, 9], [11]), ([], []), ([13], [13]), ([14, 12], [14]), ([12, 15, 15], [12, 15]), ([], []), ([17], [17]), ([18, 16], [18]), ([], []), ([20], [20]), ([21, 19], [21]), ([19, 22, 22], [19, 22]), ([4, 9, 16, 23], [4, 9, 16, 23]), ([24, 23], [24]), ([25, 25, 0, 1, 2, 3, 4, 5, 6, 7, 8, 9, 10, 11, 12, 13, 14, 15, 16, 17, 18, 19, 20, 21, 22, 23, 24, 25], [25]), ([26, 0, 1, 2, 3, 4, 5, 6, 7, 8, 9, 10, 11, 12, 13, 14, 15, 16, 17, 18, 19, 20, 21, 22, 23, 24, 25, 26], [])])
def value_Compare.B10 : List Nat := [0, 1, 0, 4, 15, 0, 32, 0, 128, 511, 0, 1024, 4095, 0, 8192, 32767, 65535, 0, 131072, 524287, 0, 1048576, 4194303, 8388607, 16777215, 33554431, 67108863, 134217727]
theorem value_Compare.tab10 : rtab .any (opsOf Tryz.f19 10) = value_Compare.T10 := by kernel_rfl
theorem value_Compare.bits10 : waitsOk value_Compare.T10.2 value_Compare.B10 = true := by kernel_rfl
set_option maxHeartbeats 8000000 in
set_option maxRecDepth 100000 in
theorem value_Compare.calls (k : Nat) (a0_0 : Int) (a0_1 : Int) (a0_2 : ByteArray) (a0_3 : Bool) (a0_4 : Int) (a1_0 : Int) (a1_1 : Int) (a1_2 : ByteArray) (a1_3 : Bool) (a1_4 : Int) (r1 : Int) (r2 : Int) (w : World) (h : value_Compare.f k a0_0 a0_1 a0_2 a0_3 a0_4 a1_0 a1_1 a1_2 a1_3 a1_4 = some (r1, r2)) :
    Calls Tryz.prog 19 #[.agg #[.int .i64 a0_0, .int .i64 a0_1, .string a0_2, .bool a0_3, .int .i64 a0_4], .agg #[.int .i64 a1_0, .int .i64 a1_1, .string a1_2, .bool a1_3, .int .i64 a1_4]] w fun e w' => e = .returned (.tuple #[.int .i64 r1, .int .i64 r2]) ∧ Below w.heap.size w w' := by
  have hu25 := Tryz.underlying25
  have HB := Aside0.mk (Below.refl w.heap.size w)
  have H : ((value_Check.f a0_0 a0_1 a0_2 a0_3 a0_4).bind fun t169 => (if t169 = 0 then ((value_Check.f a1_0 a1_1 a1_2 a1_3 a1_4).bind fun t170 => (value_Compare.j0 k (t170 != 0) a0_0 a0_1 a0_2 a0_3 a0_4 a1_0 a1_1 a1_2 a1_3 a1_4)) else (value_Compare.j0 k true a0_0 a0_1 a0_2 a0_3 a0_4 a1_0 a1_1 a1_2 a1_3 a1_4))) = some (r1, r2) := h
  clear h
  have HC3 := Aside0.mk H
  clear H
  go_enter Tryz.func19, Tryz.ntmps19
  go_upto_region 1 with (first | ((with_reducible refine gate_dst (N := 2) rfl ?_); refine box_event ?hg (N := 2) ?hd (cs := #[.int .i64 a0_0, .int .i64 a0_1, .string a0_2, .bool a0_3, .int .i64 a0_4]) (t := 25) ?hr ?_; (case hd => rfl); (case hg => rfl); (case hr => first | (go_simp; done) | (go_simp; rfl)); intro gb167 hg w4 hbox hb; have n0_ := Aside0.mk (below_step (by repeat (first | (with_reducible first | exact HB.out | apply below_alloc | apply pw_below_drewN | apply below_drew1) | exact HB.out)) hb); have n1_ := Aside0.mk (hbox); have n2_ := Aside0.mk ((by rw [hg]; exact (below_size (by repeat (first | (with_reducible first | exact HB.out | apply below_alloc | apply pw_below_drewN | apply below_drew1) | exact HB.out))) : w.heap.size ≤ gb167)); have n3_ := Aside0.mk ((by rw [hg]; exact (below_size (by repeat (first | (with_reducible first | exact HB.out | apply below_alloc | apply pw_below_drewN | apply below_drew1) | exact HB.out))) : w.heap.size ≤ gb167)); clear HB; have HB := n0_; have BK167 := n1_; have GW167 := n2_; have GE167 := n3_; clear n0_ n1_ n2_ n3_; clear hb hbox hg) | ((with_reducible refine gate_dst (N := 3) rfl ?_); refine box_event ?hg (N := 3) ?hd (cs := #[.int .i64 a1_0, .int .i64 a1_1, .string a1_2, .bool a1_3, .int .i64 a1_4]) (t := 25) ?hr ?_; (case hd => rfl); (case hg => rfl); (case hr => first | (go_simp; done) | (go_simp; rfl)); intro gb168 hg w5 hbox hb; have n0_ := Aside0.mk (blk_below (g := gb167) (o := .cells #[.int .i64 a0_0, .int .i64 a0_1, .string a0_2, .bool a0_3, .int .i64 a0_4] 25 (0, 0)) (by (with_reducible repeat (first | refine blk_drewN ?_ _ | refine blk_drew ?_ | refine blk_alloc ?_ _)); exact BK167.out) hb); have n1_ := Aside0.mk (below_step (by repeat (first | (with_reducible first | exact HB.out | apply below_alloc | apply pw_below_drewN | apply below_drew1 | refine below_set ?_ GE167.out) | exact HB.out)) hb); have n2_ := Aside0.mk (hbox); have n3_ := Aside0.mk ((by rw [hg]; exact (below_size (by repeat (first | (with_reducible first | exact HB.out | apply below_alloc | apply pw_below_drewN | apply below_drew1 | refine below_set ?_ GE167.out) | exact HB.out))) : w.heap.size ≤ gb168)); have n4_ := Aside0.mk ((by rw [hg]; exact (below_size (by repeat (first | (with_reducible first | exact HB.out | apply below_alloc | apply pw_below_drewN | apply below_drew1 | refine below_set ?_ GE167.out) | exact HB.out))) : w.heap.size ≤ gb168)); have n5_ := Aside0.mk ((by rw [hg]; exact Nat.ne_of_lt (blk_lt (g := gb167) (o := .cells #[.int .i64 a0_0, .int .i64 a0_1, .string a0_2, .bool a0_3, .int .i64 a0_4] 25 (0, 0)) (by (with_reducible repeat (first | refine blk_drewN ?_ _ | refine blk_drew ?_ | refine blk_alloc ?_ _)); exact BK167.out)) : gb167 ≠ gb168)); have n6_ := Aside0.mk ((by rw [hg]; exact Nat.ne_of_gt (blk_lt (g := gb167) (o := .cells #[.int .i64 a0_0, .int .i64 a0_1, .string a0_2, .bool a0_3, .int .i64 a0_4] 25 (0, 0)) (by (with_reducible repeat (first | refine blk_drewN ?_ _ | refine blk_drew ?_ | refine blk_alloc ?_ _)); exact BK167.out)) : gb168 ≠ gb167)); clear BK167; clear HB; have BK167 := n0_; have HB := n1_; have BK168 := n2_; have GW168 := n3_; have GE168 := n4_; have NB167_168 := n5_; have NB168_167 := n6_; clear n0_ n1_ n2_ n3_ n4_ n5_ n6_; clear hb hbox hg))
  (try simp only [Act.put, List.setIfInBounds_toArray, List.set_cons_zero, List.set_cons_succ])
  go_cut [14] (fun v14 wc => ∃ (kq : Nat) (x14_2 : Bool), v14 = .bool x14_2 ∧ Aside0 (value_Compare.j0 kq x14_2 a0_0 a0_1 a0_2 a0_3 a0_4 a1_0 a1_1 a1_2 a1_3 a1_4 = some (r1, r2)) ∧ Aside0 (kq ≤ k) ∧ Aside0 (wc.heap[gb167]? = some (.cells #[.int .i64 a0_0, .int .i64 a0_1, .string a0_2, .bool a0_3, .int .i64 a0_4] 25 (0, 0))) ∧ Aside0 (wc.heap[gb168]? = some (.cells #[.int .i64 a1_0, .int .i64 a1_1, .string a1_2, .bool a1_3, .int .i64 a1_4] 25 (0, 0))) ∧ Aside0 (Below w.heap.size w wc))
  case first =>
    have H := HC3.out
    clear HC3
    replace H := Option.bind_eq_some_iff.mp H
    obtain ⟨t169, A60, H⟩ := H
    replace H : (if t169 = 0 then ((value_Check.f a1_0 a1_1 a1_2 a1_3 a1_4).bind fun t170 => (value_Compare.j0 k (t170 != 0) a0_0 a0_1 a0_2 a0_3 a0_4 a1_0 a1_1 a1_2 a1_3 a1_4)) else (value_Compare.j0 k true a0_0 a0_1 a0_2 a0_3 a0_4 a1_0 a1_1 a1_2 a1_3 a1_4)) = some (r1, r2) := H
    have A6 := Aside0.mk A60
    clear A60
    by_cases c7 : t169 = 0
    · rw [if_pos c7] at H
      have c7b0 : (t169 == 0) = true := beq_iff_eq.mpr c7
      have c7b1 : (t169 != 0) = false := bne_eq_false_iff_eq.mpr c7
      clear c7
      (first | rw [c7b0] | (simp only [i64_w, i32_w]; rw [c7b0]) | skip)
      replace H := Option.bind_eq_some_iff.mp H
      obtain ⟨t170, A80, H⟩ := H
      replace H : (value_Compare.j0 k (t170 != 0) a0_0 a0_1 a0_2 a0_3 a0_4 a1_0 a1_1 a1_2 a1_3 a1_4) = some (r1, r2) := H
      have A8 := Aside0.mk A80
      clear A80
      have H' := Aside0.mk H
      clear H
      have hnb9 := NB167_168.out
      have hnc9 := NB168_167.out
      have hcz10_0 : w5.cell? ⟨gb167, 0, none⟩ = some (.int .i64 a0_0) := (blk_cell BK167.out 0).trans rfl
      have hcz10_1 : w5.cell? ⟨gb167, 1, none⟩ = some (.int .i64 a0_1) := (blk_cell BK167.out 1).trans rfl
      have hcz10_2 : w5.cell? ⟨gb167, 2, none⟩ = some (.string a0_2) := (blk_cell BK167.out 2).trans rfl
      have hcz10_3 : w5.cell? ⟨gb167, 3, none⟩ = some (.bool a0_3) := (blk_cell BK167.out 3).trans rfl
      have hcz10_4 : w5.cell? ⟨gb167, 4, none⟩ = some (.int .i64 a0_4) := (blk_cell BK167.out 4).trans rfl
      have hfz10_0 := blk_frozen BK167.out 0
      have hfz10_1 := blk_frozen BK167.out 1
      have hfz10_2 := blk_frozen BK167.out 2
      have hfz10_3 := blk_frozen BK167.out 3
      have hfz10_4 := blk_frozen BK167.out 4
      go_wp2_with (first | ((with_reducible refine gate_callee (f := 18) rfl ?_); refine goesL_ (some 8) rfl rfl Tryz.func18 (by kernel_rfl) rfl #[.agg #[.int .i64 a0_0, .int .i64 a0_1, .string a0_2, .bool a0_3, .int .i64 a0_4]] rfl (by (try simp only [List.map_toArray, List.map_cons, List.map_nil]); first | done | rfl | (simp only [List.length_drop, List.length_take]; rfl) | (simp only [ByteArray.size_append, Int.natCast_add]; done) | (simp only [ByteArray.size_append, Int.natCast_add]; rfl) | (simp only [Array.mk.injEq, List.cons.injEq, Value.int.injEq, true_and, and_true]; (try simp only [mx, mn, wrap64] at *); omega)) ?_; (with_reducible refine (value_Check.calls a0_0 a0_1 a0_2 a0_3 a0_4 t169 _ A6.out).mono ?_); rintro e w11 ⟨rfl, hb⟩; refine ⟨_, rfl, ?_⟩; have n0_ := Aside0.mk (blk_below (g := gb167) (o := .cells #[.int .i64 a0_0, .int .i64 a0_1, .string a0_2, .bool a0_3, .int .i64 a0_4] 25 (0, 0)) (by (with_reducible repeat (first | refine blk_drewN ?_ _ | refine blk_drew ?_ | refine blk_alloc ?_ _)); exact BK167.out) hb); have n1_ := Aside0.mk (blk_below (g := gb168) (o := .cells #[.int .i64 a1_0, .int .i64 a1_1, .string a1_2, .bool a1_3, .int .i64 a1_4] 25 (0, 0)) (by (with_reducible repeat (first | refine blk_drewN ?_ _ | refine blk_drew ?_ | refine blk_alloc ?_ _)); exact BK168.out) hb); have n2_ := Aside0.mk (below_step (by repeat (first | (with_reducible first | exact HB.out | apply below_alloc | apply pw_below_drewN | apply below_drew1 | refine below_set ?_ GE167.out | refine below_set ?_ GE168.out) | exact HB.out)) hb); clear BK167; clear BK168; clear HB; have BK167 := n0_; have BK168 := n1_; have HB := n2_; clear n0_ n1_ n2_; (try clear hb); (try clear hb2); (try clear hk); (try clear hi); have hcz12_0 : w11.cell? ⟨gb168, 0, none⟩ = some (.int .i64 a1_0) := (blk_cell BK168.out 0).trans rfl; have hcz12_1 : w11.cell? ⟨gb168, 1, none⟩ = some (.int .i64 a1_1) := (blk_cell BK168.out 1).trans rfl; have hcz12_2 : w11.cell? ⟨gb168, 2, none⟩ = some (.string a1_2) := (blk_cell BK168.out 2).trans rfl; have hcz12_3 : w11.cell? ⟨gb168, 3, none⟩ = some (.bool a1_3) := (blk_cell BK168.out 3).trans rfl; have hcz12_4 : w11.cell? ⟨gb168, 4, none⟩ = some (.int .i64 a1_4) := (blk_cell BK168.out 4).trans rfl; have hfz12_0 := blk_frozen BK168.out 0; have hfz12_1 := blk_frozen BK168.out 1; have hfz12_2 := blk_frozen BK168.out 2; have hfz12_3 := blk_frozen BK168.out 3; have hfz12_4 := blk_frozen BK168.out 4) | (go_at_call 18; (with_reducible refine (value_Check.calls a1_0 a1_1 a1_2 a1_3 a1_4 t170 _ A8.out).mono ?_); rintro e w13 ⟨rfl, hb⟩; have n0_ := Aside0.mk (blk_below (g := gb167) (o := .cells #[.int .i64 a0_0, .int .i64 a0_1, .string a0_2, .bool a0_3, .int .i64 a0_4] 25 (0, 0)) (by (with_reducible repeat (first | refine blk_drewN ?_ _ | refine blk_drew ?_ | refine blk_alloc ?_ _)); exact BK167.out) hb); have n1_ := Aside0.mk (blk_below (g := gb168) (o := .cells #[.int .i64 a1_0, .int .i64 a1_1, .string a1_2, .bool a1_3, .int .i64 a1_4] 25 (0, 0)) (by (with_reducible repeat (first | refine blk_drewN ?_ _ | refine blk_drew ?_ | refine blk_alloc ?_ _)); exact BK168.out) hb); have n2_ := Aside0.mk (below_step (by repeat (first | (with_reducible first | exact HB.out | apply below_alloc | apply pw_below_drewN | apply below_drew1 | refine below_set ?_ GE167.out | refine below_set ?_ GE168.out) | exact HB.out)) hb); clear BK167; clear BK168; clear HB; have BK167 := n0_; have BK168 := n1_; have HB := n2_; clear n0_ n1_ n2_; (try clear hb); (try clear hb2); (try clear hk); (try clear hi)))
      go_meet
      case rel => exact ⟨_, ((t170 != 0)), (by first | rfl | (simp; done) | (simp [*]; done)), H', ⟨by first | omega | exact Nat.le_refl _⟩, ⟨by (with_reducible repeat (first | refine blk_drewN ?_ _ | refine blk_drew ?_ | refine blk_alloc ?_ _)); exact BK167.out⟩, ⟨by (with_reducible repeat (first | refine blk_drewN ?_ _ | refine blk_drew ?_ | refine blk_alloc ?_ _)); exact BK168.out⟩, ⟨by repeat (first | (with_reducible first | exact HB.out | apply below_alloc | apply pw_below_drewN | apply below_drew1 | refine below_set ?_ GE167.out | refine below_set ?_ GE168.out) | exact HB.out)⟩⟩
    · rw [if_neg c7] at H
      have c7b0 : (t169 == 0) = false := beq_eq_false_iff_ne.mpr c7
      have c7b1 : (t169 != 0) = true := bne_iff_ne.mpr c7
      (first | rw [c7b0] | (simp only [i64_w, i32_w]; rw [c7b0]) | skip)
      have H' := Aside0.mk H
      clear H
      have hnb14 := NB167_168.out
      have hnc14 := NB168_167.out
      have hcz15_0 : w5.cell? ⟨gb167, 0, none⟩ = some (.int .i64 a0_0) := (blk_cell BK167.out 0).trans rfl
      have hcz15_1 : w5.cell? ⟨gb167, 1, none⟩ = some (.int .i64 a0_1) := (blk_cell BK167.out 1).trans rfl
      have hcz15_2 : w5.cell? ⟨gb167, 2, none⟩ = some (.string a0_2) := (blk_cell BK167.out 2).trans rfl
      have hcz15_3 : w5.cell? ⟨gb167, 3, none⟩ = some (.bool a0_3) := (blk_cell BK167.out 3).trans rfl
      have hcz15_4 : w5.cell? ⟨gb167, 4, none⟩ = some (.int .i64 a0_4) := (blk_cell BK167.out 4).trans rfl
      have hfz15_0 := blk_frozen BK167.out 0
      have hfz15_1 := blk_frozen BK167.out 1
      have hfz15_2 := blk_frozen BK167.out 2
      have hfz15_3 := blk_frozen BK167.out 3
      have hfz15_4 := blk_frozen BK167.out 4
      go_wp2_with (first | ((with_reducible refine gate_callee (f := 18) rfl ?_); refine goesL_ (some 8) rfl rfl Tryz.func18 (by kernel_rfl) rfl #[.agg #[.int .i64 a0_0, .int .i64 a0_1, .string a0_2, .bool a0_3, .int .i64 a0_4]] rfl (by (try simp only [List.map_toArray, List.map_cons, List.map_nil]); first | done | rfl | (simp only [List.length_drop, List.length_take]; rfl) | (simp only [ByteArray.size_append, Int.natCast_add]; done) | (simp only [ByteArray.size_append, Int.natCast_add]; rfl) | (simp only [Array.mk.injEq, List.cons.injEq, Value.int.injEq, true_and, and_true]; (try simp only [mx, mn, wrap64] at *); omega)) ?_; (with_reducible refine (value_Check.calls a0_0 a0_1 a0_2 a0_3 a0_4 t169 _ A6.out).mono ?_); rintro e w16 ⟨rfl, hb⟩; refine ⟨_, rfl, ?_⟩; have n0_ := Aside0.mk (blk_below (g := gb167) (o := .cells #[.int .i64 a0_0, .int .i64 a0_1, .string a0_2, .bool a0_3, .int .i64 a0_4] 25 (0, 0)) (by (with_reducible repeat (first | refine blk_drewN ?_ _ | refine blk_drew ?_ | refine blk_alloc ?_ _)); exact BK167.out) hb); have n1_ := Aside0.mk (blk_below (g := gb168) (o := .cells #[.int .i64 a1_0, .int .i64 a1_1, .string a1_2, .bool a1_3, .int .i64 a1_4] 25 (0, 0)) (by (with_reducible repeat (first | refine blk_drewN ?_ _ | refine blk_drew ?_ | refine blk_alloc ?_ _)); exact BK168.out) hb); have n2_ := Aside0.mk (below_step (by repeat (first | (with_reducible first | exact HB.out | apply below_alloc | apply pw_below_drewN | apply below_drew1 | refine below_set ?_ GE167.out | refine below_set ?_ GE168.out) | exact HB.out)) hb); clear BK167; clear BK168; clear HB; have BK167 := n0_; have BK168 := n1_; have HB := n2_; clear n0_ n1_ n2_; (try clear hb); (try clear hb2); (try clear hk); (try clear hi)))
      go_meet
      case rel => exact ⟨_, (true), (by first | rfl | (simp; done) | (simp [*]; done)), H', ⟨by first | omega | exact Nat.le_refl _⟩, ⟨by (with_reducible repeat (first | refine blk_drewN ?_ _ | refine blk_drew ?_ | refine blk_alloc ?_ _)); exact BK167.out⟩, ⟨by (with_reducible repeat (first | refine blk_drewN ?_ _ | refine blk_drew ?_ | refine blk_alloc ?_ _)); exact BK168.out⟩, ⟨by repeat (first | (with_reducible first | exact HB.out | apply below_alloc | apply pw_below_drewN | apply below_drew1 | refine below_set ?_ GE167.out | refine below_set ?_ GE168.out) | exact HB.out)⟩⟩
  case rest =>
    clear HC3
    try clear c1
    try clear p2
    try clear p6
    try clear c7
    try clear c7b0
    try clear c7b1
    try clear c9
    try clear c14
    try clear hcz10_0
    try clear hcz10_1
    try clear hcz10_2
    try clear hcz10_3
    try clear hcz10_4
    try clear hcz12_0
    try clear hcz12_1
    try clear hcz12_2
    try clear hcz12_3
    try clear hcz12_4
    try clear hcz15_0
    try clear hcz15_1
    try clear hcz15_2
    try clear hcz15_3
    try clear hcz15_4
    try clear hfz10_0
    try clear hfz10_1
    try clear hfz10_2
    try clear hfz10_3
    try clear hfz10_4
    try clear hfz12_0
    try clear hfz12_1
    try clear hfz12_2
    try clear hfz12_3
    try clear hfz12_4
    try clear hfz15_0
    try clear hfz15_1
    try clear hfz15_2
    try clear hfz15_3
    try clear hfz15_4
    obtain ⟨kq, x14_2, rfl, HA, HJ2, BK167, BK168, HB⟩ := hcut
    cases kq with
    | zero => exact absurd HA.out (by simp [value_Compare.j0])
    | succ kj2 =>
      have H := HA.out
      clear HA
      simp only [value_Compare.j0] at H
      by_cases c17 : x14_2 = true
      · subst c17
        have H1 : (some (0, 2)) = some (r1, r2) := by rw [if_pos rfl] at H; exact H
        clear H
        have H := H1
        clear H1
        simp only [Option.some.injEq, Prod.mk.injEq] at H
        obtain ⟨rfl, rfl⟩ := H
        go_wp2
        go_ret2
        exact ⟨by first | rfl | (simp [errW_none, errW_some] <;> rfl) | (simp [*, errW_none, errW_some] <;> rfl), by repeat (first | (with_reducible first | exact HB.out | apply below_alloc | apply pw_below_drewN | apply below_drew1 | refine below_set ?_ GE167.out | refine below_set ?_ GE168.out) | exact HB.out)⟩
      · replace c17 := Bool.eq_false_iff.mpr c17
        subst c17
        have H1 : ((api_Code.f kj2 (([a0_4, a1_4] : List Int))).bind fun t174 => (if t174 = 0 then (if a0_0 = 0 then (value_Compare.j1 kj2 a1_0 a0_1 a0_2 a0_3 a0_4 a1_0 a1_1 a1_2 a1_3 a1_4) else (value_Compare.j1 kj2 a0_0 a0_1 a0_2 a0_3 a0_4 a1_0 a1_1 a1_2 a1_3 a1_4)) else (some (0, t174)))) = some (r1, r2) := by rw [if_neg (show ¬ (false = true) by decide)] at H; exact H
        clear H
        have H := H1
        clear H1
        obtain ⟨y171, hy171⟩ : ∃ y_ : List Int, y_ = (([a0_4, a1_4] : List Int)) := ⟨_, rfl⟩
        replace H : ((api_Code.f kj2 y171).bind fun t174 => (if t174 = 0 then (if a0_0 = 0 then (value_Compare.j1 kj2 a1_0 a0_1 a0_2 a0_3 a0_4 a1_0 a1_1 a1_2 a1_3 a1_4) else (value_Compare.j1 kj2 a0_0 a0_1 a0_2 a0_3 a0_4 a1_0 a1_1 a1_2 a1_3 a1_4)) else (some (0, t174)))) = some (r1, r2) := by first | (rw [hy171]; with_reducible exact H) | (have H2_ := (Option.bind_some _ _).symm.trans H; rw [hy171]; with_reducible exact H2_) | (have H2_ := (Option.bind_some _ _).symm.trans H; with_reducible exact H2_) | with_reducible exact H | (rw [hy171]; exact H) | exact H
        have Ny171 := Aside0.mk hy171
        clear hy171
        replace H := Option.bind_eq_some_iff.mp H
        obtain ⟨t174, A180, H⟩ := H
        replace H : (if t174 = 0 then (if a0_0 = 0 then (value_Compare.j1 kj2 a1_0 a0_1 a0_2 a0_3 a0_4 a1_0 a1_1 a1_2 a1_3 a1_4) else (value_Compare.j1 kj2 a0_0 a0_1 a0_2 a0_3 a0_4 a1_0 a1_1 a1_2 a1_3 a1_4)) else (some (0, t174))) = some (r1, r2) := H
        have A18 := Aside0.mk A180
        clear A180
        by_cases c19 : t174 = 0
        · rw [if_pos c19] at H
          have c19b0 : (t174 == 0) = true := beq_iff_eq.mpr c19
          have c19b1 : (t174 != 0) = false := bne_eq_false_iff_eq.mpr c19
          clear c19
          have HC20 := Aside0.mk H
          clear H
          have hnb21 := NB167_168.out
          have hnc21 := NB168_167.out
          have hcz22_0 : wc.cell? ⟨gb167, 0, none⟩ = some (.int .i64 a0_0) := (blk_cell BK167.out 0).trans rfl
          have hcz22_1 : wc.cell? ⟨gb167, 1, none⟩ = some (.int .i64 a0_1) := (blk_cell BK167.out 1).trans rfl
          have hcz22_2 : wc.cell? ⟨gb167, 2, none⟩ = some (.string a0_2) := (blk_cell BK167.out 2).trans rfl
          have hcz22_3 : wc.cell? ⟨gb167, 3, none⟩ = some (.bool a0_3) := (blk_cell BK167.out 3).trans rfl
          have hcz22_4 : wc.cell? ⟨gb167, 4, none⟩ = some (.int .i64 a0_4) := (blk_cell BK167.out 4).trans rfl
          have hfz22_0 := blk_frozen BK167.out 0
          have hfz22_1 := blk_frozen BK167.out 1
          have hfz22_2 := blk_frozen BK167.out 2
          have hfz22_3 := blk_frozen BK167.out 3
          have hfz22_4 := blk_frozen BK167.out 4
          have hcz23_0 : wc.cell? ⟨gb168, 0, none⟩ = some (.int .i64 a1_0) := (blk_cell BK168.out 0).trans rfl
          have hcz23_1 : wc.cell? ⟨gb168, 1, none⟩ = some (.int .i64 a1_1) := (blk_cell BK168.out 1).trans rfl
          have hcz23_2 : wc.cell? ⟨gb168, 2, none⟩ = some (.string a1_2) := (blk_cell BK168.out 2).trans rfl
          have hcz23_3 : wc.cell? ⟨gb168, 3, none⟩ = some (.bool a1_3) := (blk_cell BK168.out 3).trans rfl
          have hcz23_4 : wc.cell? ⟨gb168, 4, none⟩ = some (.int .i64 a1_4) := (blk_cell BK168.out 4).trans rfl
          have hfz23_0 := blk_frozen BK168.out 0
          have hfz23_1 := blk_frozen BK168.out 1
          have hfz23_2 := blk_frozen BK168.out 2
          have hfz23_3 := blk_frozen BK168.out 3
          have hfz23_4 := blk_frozen BK168.out 4
          go_upto_if 26 with (first | ((with_reducible refine gate_dst (N := 19) rfl ?_); refine Kd.R_lit (Kd.int .i64) _ 23 ?hg (N := 19) ?hd (xs := ([a0_4, a1_4] : List Int)) (inner := [.int .i64 a0_4, .int .i64 a1_4]) (ok := fun _ => True) (okp := fun _ => True) ?hr ?hp (fun _ hk => hk) trivial (Below.refl _ _) (Nat.le_refl _) (by simp) ?_; (case hd => rfl); (case hg => rfl); (case hr => first | (go_simp; done) | (go_simp; rfl)); (case hp => exact (Reps.one (show Kd.M (Kd.int .i64) _ _ _ a0_4 [.int .i64 a0_4] from rfl) (Reps.one (show Kd.M (Kd.int .i64) _ _ _ a1_4 [.int .i64 a1_4] from rfl) (Reps.none _ _)))); intro v172 w24 ho25 hb hg_ hnew_; clear hg_ hnew_; (first | rw [← Ny171.out] at ho25 | (simp only [Int.reduceToNat] at ho25; rw [← Ny171.out] at ho25)); have n0_ := Aside0.mk (Kd.R_lower ho25 (below_size (by repeat (first | (with_reducible first | exact HB.out | apply below_alloc | apply pw_below_drewN | apply below_drew1 | refine below_set ?_ GE167.out | refine below_set ?_ GE168.out) | exact HB.out)))); have n1_ := Aside0.mk (blk_below (g := gb167) (o := .cells #[.int .i64 a0_0, .int .i64 a0_1, .string a0_2, .bool a0_3, .int .i64 a0_4] 25 (0, 0)) (by (with_reducible repeat (first | refine blk_drewN ?_ _ | refine blk_drew ?_ | refine blk_alloc ?_ _)); exact BK167.out) hb); have n2_ := Aside0.mk (blk_below (g := gb168) (o := .cells #[.int .i64 a1_0, .int .i64 a1_1, .string a1_2, .bool a1_3, .int .i64 a1_4] 25 (0, 0)) (by (with_reducible repeat (first | refine blk_drewN ?_ _ | refine blk_drew ?_ | refine blk_alloc ?_ _)); exact BK168.out) hb); have n3_ := Aside0.mk (below_step (by repeat (first | (with_reducible first | exact HB.out | apply below_alloc | apply pw_below_drewN | apply below_drew1 | refine below_set ?_ GE167.out | refine below_set ?_ GE168.out) | exact HB.out)) hb); clear BK167; clear BK168; clear HB; have HO173 := n0_; have BK167 := n1_; have BK168 := n2_; have HB := n3_; clear n0_ n1_ n2_ n3_; clear hb ho25; obtain ⟨Ao26, co26, eo26⟩ := Kd.R_slice HO173.out; subst eo26) | ((with_reducible refine gate_callee (f := 40) rfl ?_); refine goesL_ (some 20) rfl rfl Tryz.func40 (by kernel_rfl) rfl #[.slice Ao26 y171.length co26] rfl (by (try simp only [List.map_toArray, List.map_cons, List.map_nil]); first | done | rfl | (simp only [List.length_drop, List.length_take]; rfl) | (simp only [ByteArray.size_append, Int.natCast_add]; done) | (simp only [ByteArray.size_append, Int.natCast_add]; rfl) | (simp only [Array.mk.injEq, List.cons.injEq, Value.int.injEq, true_and, and_true]; (try simp only [mx, mn, wrap64] at *); omega)) ?_; (with_reducible refine (api_Code.calls kj2 _ _ y171 t174 _ ?side1 ?side2 A18.out).mono ?_); (case side1 => repeat (first | exact (Kd.R_reads' HO173.out).2.2 | (with_reducible refine Kd.C_alloc ?_ _) | (with_reducible refine Kd.C_drewN ?_ _) | (with_reducible refine Kd.C_drew ?_))); (case side2 => exact (Kd.R_reads' HO173.out).2.1); rintro e w' ⟨rfl, ⟨nd, rfl⟩⟩; refine ⟨_, rfl, ?_⟩; have hcz27_0 : w24.cell? ⟨gb167, 0, none⟩ = some (.int .i64 a0_0) := (blk_cell BK167.out 0).trans rfl; have hcz27_1 : w24.cell? ⟨gb167, 1, none⟩ = some (.int .i64 a0_1) := (blk_cell BK167.out 1).trans rfl; have hcz27_2 : w24.cell? ⟨gb167, 2, none⟩ = some (.string a0_2) := (blk_cell BK167.out 2).trans rfl; have hcz27_3 : w24.cell? ⟨gb167, 3, none⟩ = some (.bool a0_3) := (blk_cell BK167.out 3).trans rfl; have hcz27_4 : w24.cell? ⟨gb167, 4, none⟩ = some (.int .i64 a0_4) := (blk_cell BK167.out 4).trans rfl; have hfz27_0 := blk_frozen BK167.out 0; have hfz27_1 := blk_frozen BK167.out 1; have hfz27_2 := blk_frozen BK167.out 2; have hfz27_3 := blk_frozen BK167.out 3; have hfz27_4 := blk_frozen BK167.out 4))
          (try simp only [Act.put, List.setIfInBounds_toArray, List.set_cons_zero, List.set_cons_succ])
          go_cut [] (fun wc => ∃ (kq : Nat) (x168000_19 : Int), Aside0 (value_Compare.j1 kq x168000_19 a0_1 a0_2 a0_3 a0_4 a1_0 a1_1 a1_2 a1_3 a1_4 = some (r1, r2)) ∧ Aside0 (kq ≤ kj2) ∧ Aside0 (wc.heap[gb167]? = some (.cells #[.int .i64 x168000_19, .int .i64 a0_1, .string a0_2, .bool a0_3, .int .i64 a0_4] 25 (0, 0))) ∧ Aside0 (wc.heap[gb168]? = some (.cells #[.int .i64 a1_0, .int .i64 a1_1, .string a1_2, .bool a1_3, .int .i64 a1_4] 25 (0, 0))) ∧ Aside0 (Below w.heap.size w wc))
          case first =>
            have H := HC20.out
            clear HC20
            by_cases c28 : a0_0 = 0
            · rw [if_pos c28] at H
              have c28b0 : (a0_0 == 0) = true := beq_iff_eq.mpr c28
              have c28b1 : (a0_0 != 0) = false := bne_eq_false_iff_eq.mpr c28
              clear c28
              (first | rw [c28b0] | (simp only [i64_w, i32_w]; rw [c28b0]) | skip)
              have H' := Aside0.mk H
              clear H
              have hnb29 := NB168_167.out
              have hnc29 := NB167_168.out
              have hcz30_0 : w24.cell? ⟨gb168, 0, none⟩ = some (.int .i64 a1_0) := (blk_cell BK168.out 0).trans rfl
              have hcz30_1 : w24.cell? ⟨gb168, 1, none⟩ = some (.int .i64 a1_1) := (blk_cell BK168.out 1).trans rfl
              have hcz30_2 : w24.cell? ⟨gb168, 2, none⟩ = some (.string a1_2) := (blk_cell BK168.out 2).trans rfl
              have hcz30_3 : w24.cell? ⟨gb168, 3, none⟩ = some (.bool a1_3) := (blk_cell BK168.out 3).trans rfl
              have hcz30_4 : w24.cell? ⟨gb168, 4, none⟩ = some (.int .i64 a1_4) := (blk_cell BK168.out 4).trans rfl
              have hfz30_0 := blk_frozen BK168.out 0
              have hfz30_1 := blk_frozen BK168.out 1
              have hfz30_2 := blk_frozen BK168.out 2
              have hfz30_3 := blk_frozen BK168.out 3
              have hfz30_4 := blk_frozen BK168.out 4
              have hcz31_0 : w24.cell? ⟨gb167, 0, none⟩ = some (.int .i64 a0_0) := (blk_cell BK167.out 0).trans rfl
              have hcz31_1 : w24.cell? ⟨gb167, 1, none⟩ = some (.int .i64 a0_1) := (blk_cell BK167.out 1).trans rfl
              have hcz31_2 : w24.cell? ⟨gb167, 2, none⟩ = some (.string a0_2) := (blk_cell BK167.out 2).trans rfl
              have hcz31_3 : w24.cell? ⟨gb167, 3, none⟩ = some (.bool a0_3) := (blk_cell BK167.out 3).trans rfl
              have hcz31_4 : w24.cell? ⟨gb167, 4, none⟩ = some (.int .i64 a0_4) := (blk_cell BK167.out 4).trans rfl
              have hfz31_0 := blk_frozen BK167.out 0
              have hfz31_1 := blk_frozen BK167.out 1
              have hfz31_2 := blk_frozen BK167.out 2
              have hfz31_3 := blk_frozen BK167.out 3
              have hfz31_4 := blk_frozen BK167.out 4
              go_wp2
              go_meet
              case rel => exact ⟨_, (a1_0), H', ⟨by have := HJ2.out; first | omega | exact Nat.le_refl _⟩, ⟨by (with_reducible repeat (first | refine blk_drewN ?_ _ | refine blk_drew ?_ | refine blk_alloc ?_ _)); refine blk_put (cs := #[.int .i64 a0_0, .int .i64 a0_1, .string a0_2, .bool a0_3, .int .i64 a0_4]) ?_ 0 _ rfl; (with_reducible repeat (first | refine blk_drewN ?_ _ | refine blk_drew ?_ | refine blk_alloc ?_ _)); exact BK167.out⟩, ⟨by (with_reducible repeat (first | refine blk_drewN ?_ _ | refine blk_drew ?_ | refine blk_alloc ?_ _)); refine blk_far ?_ NB168_167.out _; (with_reducible repeat (first | refine blk_drewN ?_ _ | refine blk_drew ?_ | refine blk_alloc ?_ _)); exact BK168.out⟩, ⟨by repeat (first | (with_reducible first | exact HB.out | apply below_alloc | apply pw_below_drewN | apply below_drew1 | refine below_set ?_ GE167.out | refine below_set ?_ GE168.out) | exact HB.out)⟩⟩
            · rw [if_neg c28] at H
              have c28b0 : (a0_0 == 0) = false := beq_eq_false_iff_ne.mpr c28
              have c28b1 : (a0_0 != 0) = true := bne_iff_ne.mpr c28
              (first | rw [c28b0] | (simp only [i64_w, i32_w]; rw [c28b0]) | skip)
              have H' := Aside0.mk H
              clear H
              go_wp2
              go_meet
              case rel => exact ⟨_, (a0_0), H', ⟨by have := HJ2.out; first | omega | exact Nat.le_refl _⟩, ⟨by (with_reducible repeat (first | refine blk_drewN ?_ _ | refine blk_drew ?_ | refine blk_alloc ?_ _)); exact BK167.out⟩, ⟨by (with_reducible repeat (first | refine blk_drewN ?_ _ | refine blk_drew ?_ | refine blk_alloc ?_ _)); exact BK168.out⟩, ⟨by repeat (first | (with_reducible first | exact HB.out | apply below_alloc | apply pw_below_drewN | apply below_drew1 | refine below_set ?_ GE167.out | refine below_set ?_ GE168.out) | exact HB.out)⟩⟩
          case rest =>
            clear HC20
            try clear c1
            try clear c2
            try clear p2
            try clear c4
            try clear p6
            try clear c7
            try clear c7b0
            try clear c7b1
            try clear c9
            try clear c14
            try clear c17
            try clear c18
            try clear c19
            try clear c19b0
            try clear c19b1
            try clear c21
            try clear c28
            try clear c28b0
            try clear c28b1
            try clear c29
            try clear hcz10_0
            try clear hcz10_1
            try clear hcz10_2
            try clear hcz10_3
            try clear hcz10_4
            try clear hcz12_0
            try clear hcz12_1
            try clear hcz12_2
            try clear hcz12_3
            try clear hcz12_4
            try clear hcz15_0
            try clear hcz15_1
            try clear hcz15_2
            try clear hcz15_3
            try clear hcz15_4
            try clear hcz22_0
            try clear hcz22_1
            try clear hcz22_2
            try clear hcz22_3
            try clear hcz22_4
            try clear hcz23_0
            try clear hcz23_1
            try clear hcz23_2
            try clear hcz23_3
            try clear hcz23_4
            try clear hcz27_0
            try clear hcz27_1
            try clear hcz27_2
            try clear hcz27_3
            try clear hcz27_4
            try clear hcz30_0
            try clear hcz30_1
            try clear hcz30_2
            try clear hcz30_3
            try clear hcz30_4
            try clear hcz31_0
            try clear hcz31_1
            try clear hcz31_2
            try clear hcz31_3
            try clear hcz31_4
            try clear hfz10_0
            try clear hfz10_1
            try clear hfz10_2
            try clear hfz10_3
            try clear hfz10_4
            try clear hfz12_0
            try clear hfz12_1
            try clear hfz12_2
            try clear hfz12_3
            try clear hfz12_4
            try clear hfz15_0
            try clear hfz15_1
            try clear hfz15_2
            try clear hfz15_3
            try clear hfz15_4
            try clear hfz22_0
            try clear hfz22_1
            try clear hfz22_2
            try clear hfz22_3
            try clear hfz22_4
            try clear hfz23_0
            try clear hfz23_1
            try clear hfz23_2
            try clear hfz23_3
            try clear hfz23_4
            try clear hfz27_0
            try clear hfz27_1
            try clear hfz27_2
            try clear hfz27_3
            try clear hfz27_4
            try clear hfz30_0
            try clear hfz30_1
            try clear hfz30_2
            try clear hfz30_3
            try clear hfz30_4
            try clear hfz31_0
            try clear hfz31_1
            try clear hfz31_2
            try clear hfz31_3
            try clear hfz31_4
            try clear p2
            try clear p6
            obtain ⟨kq, x168000_19, HA, HJ19, BK167, BK168, HB⟩ := hcut
            cases kq with
            | zero => exact absurd HA.out (by simp [value_Compare.j1])
            | succ kj19 =>
              have H := HA.out
              clear HA
              simp only [value_Compare.j1] at H
              have HC32 := Aside0.mk H
              clear H
              have hnb33 := NB168_167.out
              have hnc33 := NB167_168.out
              have hcz34_0 : wc.cell? ⟨gb168, 0, none⟩ = some (.int .i64 a1_0) := (blk_cell BK168.out 0).trans rfl
              have hcz34_1 : wc.cell? ⟨gb168, 1, none⟩ = some (.int .i64 a1_1) := (blk_cell BK168.out 1).trans rfl
              have hcz34_2 : wc.cell? ⟨gb168, 2, none⟩ = some (.string a1_2) := (blk_cell BK168.out 2).trans rfl
              have hcz34_3 : wc.cell? ⟨gb168, 3, none⟩ = some (.bool a1_3) := (blk_cell BK168.out 3).trans rfl
              have hcz34_4 : wc.cell? ⟨gb168, 4, none⟩ = some (.int .i64 a1_4) := (blk_cell BK168.out 4).trans rfl
              have hfz34_0 := blk_frozen BK168.out 0
              have hfz34_1 := blk_frozen BK168.out 1
              have hfz34_2 := blk_frozen BK168.out 2
              have hfz34_3 := blk_frozen BK168.out 3
              have hfz34_4 := blk_frozen BK168.out 4
              go_upto_if 32 with (fail)
              go_cut [] (fun wc => ∃ (kq : Nat) (x169000_31 : Int), Aside0 (value_Compare.j2 kq x168000_19 a0_1 a0_2 a0_3 a0_4 x169000_31 a1_1 a1_2 a1_3 a1_4 = some (r1, r2)) ∧ Aside0 (kq ≤ kj19) ∧ Aside0 (wc.heap[gb167]? = some (.cells #[.int .i64 x168000_19, .int .i64 a0_1, .string a0_2, .bool a0_3, .int .i64 a0_4] 25 (0, 0))) ∧ Aside0 (wc.heap[gb168]? = some (.cells #[.int .i64 x169000_31, .int .i64 a1_1, .string a1_2, .bool a1_3, .int .i64 a1_4] 25 (0, 0))) ∧ Aside0 (Below w.heap.size w wc))
              case first =>
                have H := HC32.out
                clear HC32
                by_cases c35 : a1_0 = 0
                · rw [if_pos c35] at H
                  have c35b0 : (a1_0 == 0) = true := beq_iff_eq.mpr c35
                  have c35b1 : (a1_0 != 0) = false := bne_eq_false_iff_eq.mpr c35
                  clear c35
                  (first | rw [c35b0] | (simp only [i64_w, i32_w]; rw [c35b0]) | skip)
                  have H' := Aside0.mk H
                  clear H
                  have hnb36 := NB167_168.out
                  have hnc36 := NB168_167.out
                  have hcz37_0 : wc.cell? ⟨gb167, 0, none⟩ = some (.int .i64 x168000_19) := (blk_cell BK167.out 0).trans rfl
                  have hcz37_1 : wc.cell? ⟨gb167, 1, none⟩ = some (.int .i64 a0_1) := (blk_cell BK167.out 1).trans rfl
                  have hcz37_2 : wc.cell? ⟨gb167, 2, none⟩ = some (.string a0_2) := (blk_cell BK167.out 2).trans rfl
                  have hcz37_3 : wc.cell? ⟨gb167, 3, none⟩ = some (.bool a0_3) := (blk_cell BK167.out 3).trans rfl
                  have hcz37_4 : wc.cell? ⟨gb167, 4, none⟩ = some (.int .i64 a0_4) := (blk_cell BK167.out 4).trans rfl
                  have hfz37_0 := blk_frozen BK167.out 0
                  have hfz37_1 := blk_frozen BK167.out 1
                  have hfz37_2 := blk_frozen BK167.out 2
                  have hfz37_3 := blk_frozen BK167.out 3
                  have hfz37_4 := blk_frozen BK167.out 4
                  have hcz38_0 : wc.cell? ⟨gb168, 0, none⟩ = some (.int .i64 a1_0) := (blk_cell BK168.out 0).trans rfl
                  have hcz38_1 : wc.cell? ⟨gb168, 1, none⟩ = some (.int .i64 a1_1) := (blk_cell BK168.out 1).trans rfl
                  have hcz38_2 : wc.cell? ⟨gb168, 2, none⟩ = some (.string a1_2) := (blk_cell BK168.out 2).trans rfl
                  have hcz38_3 : wc.cell? ⟨gb168, 3, none⟩ = some (.bool a1_3) := (blk_cell BK168.out 3).trans rfl
                  have hcz38_4 : wc.cell? ⟨gb168, 4, none⟩ = some (.int .i64 a1_4) := (blk_cell BK168.out 4).trans rfl
                  have hfz38_0 := blk_frozen BK168.out 0
                  have hfz38_1 := blk_frozen BK168.out 1
                  have hfz38_2 := blk_frozen BK168.out 2
                  have hfz38_3 := blk_frozen BK168.out 3
                  have hfz38_4 := blk_frozen BK168.out 4
                  go_wp2
                  go_meet
                  case rel => exact ⟨_, (x168000_19), H', ⟨by have := HJ2.out; have := HJ19.out; first | omega | exact Nat.le_refl _⟩, ⟨by (with_reducible repeat (first | refine blk_drewN ?_ _ | refine blk_drew ?_ | refine blk_alloc ?_ _)); refine blk_far ?_ NB167_168.out _; (with_reducible repeat (first | refine blk_drewN ?_ _ | refine blk_drew ?_ | refine blk_alloc ?_ _)); exact BK167.out⟩, ⟨by (with_reducible repeat (first | refine blk_drewN ?_ _ | refine blk_drew ?_ | refine blk_alloc ?_ _)); refine blk_put (cs := #[.int .i64 a1_0, .int .i64 a1_1, .string a1_2, .bool a1_3, .int .i64 a1_4]) ?_ 0 _ rfl; (with_reducible repeat (first | refine blk_drewN ?_ _ | refine blk_drew ?_ | refine blk_alloc ?_ _)); exact BK168.out⟩, ⟨by repeat (first | (with_reducible first | exact HB.out | apply below_alloc | apply pw_below_drewN | apply below_drew1 | refine below_set ?_ GE167.out | refine below_set ?_ GE168.out) | exact HB.out)⟩⟩
                · rw [if_neg c35] at H
                  have c35b0 : (a1_0 == 0) = false := beq_eq_false_iff_ne.mpr c35
                  have c35b1 : (a1_0 != 0) = true := bne_iff_ne.mpr c35
                  (first | rw [c35b0] | (simp only [i64_w, i32_w]; rw [c35b0]) | skip)
                  have H' := Aside0.mk H
                  clear H
                  go_wp2
                  go_meet
                  case rel => exact ⟨_, (a1_0), H', ⟨by have := HJ2.out; have := HJ19.out; first | omega | exact Nat.le_refl _⟩, ⟨by (with_reducible repeat (first | refine blk_drewN ?_ _ | refine blk_drew ?_ | refine blk_alloc ?_ _)); exact BK167.out⟩, ⟨by (with_reducible repeat (first | refine blk_drewN ?_ _ | refine blk_drew ?_ | refine blk_alloc ?_ _)); exact BK168.out⟩, ⟨by repeat (first | (with_reducible first | exact HB.out | apply below_alloc | apply pw_below_drewN | apply below_drew1 | refine below_set ?_ GE167.out | refine below_set ?_ GE168.out) | exact HB.out)⟩⟩
              case rest =>
                clear HC32
                try clear c1
                try clear c2
                try clear p2
                try clear c3
                try clear c4
                try clear p6
                try clear c7
                try clear c7b0
                try clear c7b1
                try clear c9
                try clear c14
                try clear c17
                try clear c18
                try clear c19
                try clear c19b0
                try clear c19b1
                try clear c21
                try clear c28
                try clear c28b0
                try clear c28b1
                try clear c29
                try clear c33
                try clear c35
                try clear c35b0
                try clear c35b1
                try clear c36
                try clear hcz10_0
                try clear hcz10_1
                try clear hcz10_2
                try clear hcz10_3
                try clear hcz10_4
                try clear hcz12_0
                try clear hcz12_1
                try clear hcz12_2
                try clear hcz12_3
                try clear hcz12_4
                try clear hcz15_0
                try clear hcz15_1
                try clear hcz15_2
                try clear hcz15_3
                try clear hcz15_4
                try clear hcz22_0
                try clear hcz22_1
                try clear hcz22_2
                try clear hcz22_3
                try clear hcz22_4
                try clear hcz23_0
                try clear hcz23_1
                try clear hcz23_2
                try clear hcz23_3
                try clear hcz23_4
                try clear hcz27_0
                try clear hcz27_1
                try clear hcz27_2
                try clear hcz27_3
                try clear hcz27_4
                try clear hcz30_0
                try clear hcz30_1
                try clear hcz30_2
                try clear hcz30_3
                try clear hcz30_4
                try clear hcz31_0
                try clear hcz31_1
                try clear hcz31_2
                try clear hcz31_3
                try clear hcz31_4
                try clear hcz34_0
                try clear hcz34_1
                try clear hcz34_2
                try clear hcz34_3
                try clear hcz34_4
                try clear hcz37_0
                try clear hcz37_1
                try clear hcz37_2
                try clear hcz37_3
                try clear hcz37_4
                try clear hcz38_0
                try clear hcz38_1
                try clear hcz38_2
                try clear hcz38_3
                try clear hcz38_4
                try clear hfz10_0
                try clear hfz10_1
                try clear hfz10_2
                try clear hfz10_3
                try clear hfz10_4
                try clear hfz12_0
                try clear hfz12_1
                try clear hfz12_2
                try clear hfz12_3
                try clear hfz12_4
                try clear hfz15_0
                try clear hfz15_1
                try clear hfz15_2
                try clear hfz15_3
                try clear hfz15_4
                try clear hfz22_0
                try clear hfz22_1
                try clear hfz22_2
                try clear hfz22_3
                try clear hfz22_4
                try clear hfz23_0
                try clear hfz23_1
                try clear hfz23_2
                try clear hfz23_3
                try clear hfz23_4
                try clear hfz27_0
                try clear hfz27_1
                try clear hfz27_2
                try clear hfz27_3
                try clear hfz27_4
                try clear hfz30_0
                try clear hfz30_1
                try clear hfz30_2
                try clear hfz30_3
                try clear hfz30_4
                try clear hfz31_0
                try clear hfz31_1
                try clear hfz31_2
                try clear hfz31_3
                try clear hfz31_4
                try clear hfz34_0
                try clear hfz34_1
                try clear hfz34_2
                try clear hfz34_3
                try clear hfz34_4
                try clear hfz37_0
                try clear hfz37_1
                try clear hfz37_2
                try clear hfz37_3
                try clear hfz37_4
                try clear hfz38_0
                try clear hfz38_1
                try clear hfz38_2
                try clear hfz38_3
                try clear hfz38_4
                try clear p2
                try clear p6
                obtain ⟨kq, x169000_31, HA, HJ31, BK167, BK168, HB⟩ := hcut
                cases kq with
                | zero => exact absurd HA.out (by simp [value_Compare.j2])
                | succ kj31 =>
                  have H := HA.out
                  clear HA
                  simp only [value_Compare.j2] at H
                  replace H := Option.bind_eq_some_iff.mp H
                  obtain ⟨t175, A390, H⟩ := H
                  replace H : ((cmp_Compare_int.f a0_1 a1_1).bind fun t176 => ((value_Fold.f a0_2).bind fun t177 => ((value_Fold.f a1_2).bind fun t178 => ((strings_Compare.f t177 t178).bind fun t179 => ((value_rank.f a0_3).bind fun t180 => ((value_rank.f a1_3).bind fun t181 => ((cmp_Compare_int.f t180 t181).bind fun t182 => ((cmp_Or_int.f kj31 (([t175, t176, t179, t182] : List Int))).bind fun t186 => (some (t186, 0)))))))))) = some (r1, r2) := H
                  have A39 := Aside0.mk A390
                  clear A390
                  replace H := Option.bind_eq_some_iff.mp H
                  obtain ⟨t176, A400, H⟩ := H
                  replace H : ((value_Fold.f a0_2).bind fun t177 => ((value_Fold.f a1_2).bind fun t178 => ((strings_Compare.f t177 t178).bind fun t179 => ((value_rank.f a0_3).bind fun t180 => ((value_rank.f a1_3).bind fun t181 => ((cmp_Compare_int.f t180 t181).bind fun t182 => ((cmp_Or_int.f kj31 (([t175, t176, t179, t182] : List Int))).bind fun t186 => (some (t186, 0))))))))) = some (r1, r2) := H
                  have A40 := Aside0.mk A400
                  clear A400
                  replace H := Option.bind_eq_some_iff.mp H
                  obtain ⟨t177, A410, H⟩ := H
                  replace H : ((value_Fold.f a1_2).bind fun t178 => ((strings_Compare.f t177 t178).bind fun t179 => ((value_rank.f a0_3).bind fun t180 => ((value_rank.f a1_3).bind fun t181 => ((cmp_Compare_int.f t180 t181).bind fun t182 => ((cmp_Or_int.f kj31 (([t175, t176, t179, t182] : List Int))).bind fun t186 => (some (t186, 0)))))))) = some (r1, r2) := H
                  have A41 := Aside0.mk A410
                  clear A410
                  replace H := Option.bind_eq_some_iff.mp H
                  obtain ⟨t178, A420, H⟩ := H
                  replace H : ((strings_Compare.f t177 t178).bind fun t179 => ((value_rank.f a0_3).bind fun t180 => ((value_rank.f a1_3).bind fun t181 => ((cmp_Compare_int.f t180 t181).bind fun t182 => ((cmp_Or_int.f kj31 (([t175, t176, t179, t182] : List Int))).bind fun t186 => (some (t186, 0))))))) = some (r1, r2) := H
                  have A42 := Aside0.mk A420
                  clear A420
                  replace H := Option.bind_eq_some_iff.mp H
                  obtain ⟨t179, A430, H⟩ := H
                  replace H : ((value_rank.f a0_3).bind fun t180 => ((value_rank.f a1_3).bind fun t181 => ((cmp_Compare_int.f t180 t181).bind fun t182 => ((cmp_Or_int.f kj31 (([t175, t176, t179, t182] : List Int))).bind fun t186 => (some (t186, 0)))))) = some (r1, r2) := H
                  have A43 := Aside0.mk A430
                  clear A430
                  replace H := Option.bind_eq_some_iff.mp H
                  obtain ⟨t180, A440, H⟩ := H
                  replace H : ((value_rank.f a1_3).bind fun t181 => ((cmp_Compare_int.f t180 t181).bind fun t182 => ((cmp_Or_int.f kj31 (([t175, t176, t179, t182] : List Int))).bind fun t186 => (some (t186, 0))))) = some (r1, r2) := H
                  have A44 := Aside0.mk A440
                  clear A440
                  replace H := Option.bind_eq_some_iff.mp H
                  obtain ⟨t181, A450, H⟩ := H
                  replace H : ((cmp_Compare_int.f t180 t181).bind fun t182 => ((cmp_Or_int.f kj31 (([t175, t176, t179, t182] : List Int))).bind fun t186 => (some (t186, 0)))) = some (r1, r2) := H
                  have A45 := Aside0.mk A450
                  clear A450
                  replace H := Option.bind_eq_some_iff.mp H
                  obtain ⟨t182, A460, H⟩ := H
                  replace H : ((cmp_Or_int.f kj31 (([t175, t176, t179, t182] : List Int))).bind fun t186 => (some (t186, 0))) = some (r1, r2) := H
                  have A46 := Aside0.mk A460
                  clear A460
                  obtain ⟨y183, hy183⟩ : ∃ y_ : List Int, y_ = (([t175, t176, t179, t182] : List Int)) := ⟨_, rfl⟩
                  replace H : ((cmp_Or_int.f kj31 y183).bind fun t186 => (some (t186, 0))) = some (r1, r2) := by first | (rw [hy183]; with_reducible exact H) | (have H2_ := (Option.bind_some _ _).symm.trans H; rw [hy183]; with_reducible exact H2_) | (have H2_ := (Option.bind_some _ _).symm.trans H; with_reducible exact H2_) | with_reducible exact H | (rw [hy183]; exact H) | exact H
                  have Ny183 := Aside0.mk hy183
                  clear hy183
                  replace H := Option.bind_eq_some_iff.mp H
                  obtain ⟨t186, A470, H⟩ := H
                  replace H : (some (t186, 0)) = some (r1, r2) := H
                  have A47 := Aside0.mk A470
                  clear A470
                  simp only [Option.some.injEq, Prod.mk.injEq] at H
                  obtain ⟨rfl, rfl⟩ := H
                  try go_wp2
                  have n0_ := Aside0.mk (blk_drew BK167.out)
                  have n1_ := Aside0.mk (blk_drew BK168.out)
                  have n2_ := Aside0.mk (below_drew1 HB.out)
                  clear BK167
                  clear BK168
                  clear HB
                  have BK167 := n0_
                  have BK168 := n1_
                  have HB := n2_
                  clear n0_ n1_ n2_
                  refine start_ (n := 28) (S := fun w' => w'.cell? ⟨gb167, 0, none⟩ = some (.int .i64 x168000_19) ∧ w'.cell? ⟨gb167, 1, none⟩ = some (.int .i64 a0_1) ∧ w'.cell? ⟨gb167, 2, none⟩ = some (.string a0_2) ∧ w'.cell? ⟨gb167, 3, none⟩ = some (.bool a0_3) ∧ w'.cell? ⟨gb167, 4, none⟩ = some (.int .i64 a0_4) ∧ w'.cell? ⟨gb168, 0, none⟩ = some (.int .i64 x169000_31) ∧ w'.cell? ⟨gb168, 1, none⟩ = some (.int .i64 a1_1) ∧ w'.cell? ⟨gb168, 2, none⟩ = some (.string a1_2) ∧ w'.cell? ⟨gb168, 3, none⟩ = some (.bool a1_3) ∧ w'.cell? ⟨gb168, 4, none⟩ = some (.int .i64 a1_4)) (ds := []) #[false, false, false, false, false, false, false, false, false, false, false, false, false, false, false, false, false, false, false, false, false, false, false, false, false, false, false, false] (by kernel_rfl) rfl rfl ⟨(blk_cell BK167.out 0).trans rfl, (blk_cell BK167.out 1).trans rfl, (blk_cell BK167.out 2).trans rfl, (blk_cell BK167.out 3).trans rfl, (blk_cell BK167.out 4).trans rfl, (blk_cell BK168.out 0).trans rfl, (blk_cell BK168.out 1).trans rfl, (blk_cell BK168.out 2).trans rfl, (blk_cell BK168.out 3).trans rfl, (blk_cell BK168.out 4).trans rfl⟩ (fun hHeld => ?_); refine with_tabW value_Compare.tab10 value_Compare.bits10 (fun HT_ HW_ => ?_)
                  generalize wc.drew = w48 at BK167 BK168 HB hHeld ⊢
                  refine pure_ (i := 0) (N := some 36) (v := ?_) (a' := ?_) #[true, false, false, false, false, false, false, false, false, false, false, false, false, false, false, false, false, false, false, false, false, false, false, false, false, false, false, false] rfl rfl (any_of HT_.out (by kernel_rfl)) (fun _ _ _ h => h) (Or.inl ⟨by rfl, ?_⟩) ?_ ?_
                  rotate_left
                  · intro w'
                    go_simp
                    with_reducible rfl
                  rotate_left
                  · simp only [Act.put, List.setIfInBounds_toArray, List.set_cons_zero, List.set_cons_succ, i64_w, i32_w]
                    rfl
                  refine pure_ (i := 2) (N := some 38) (v := ?_) (a' := ?_) #[true, false, true, false, false, false, false, false, false, false, false, false, false, false, false, false, false, false, false, false, false, false, false, false, false, false, false, false] rfl rfl (any_of HT_.out (by kernel_rfl)) (fun _ _ _ h => h) (Or.inl ⟨by rfl, ?_⟩) ?_ ?_
                  rotate_left
                  · intro w'
                    go_simp
                    with_reducible rfl
                  rotate_left
                  · simp only [Act.put, List.setIfInBounds_toArray, List.set_cons_zero, List.set_cons_succ, i64_w, i32_w]
                    rfl
                  refine pure_ (i := 5) (N := some 41) (v := ?_) (a' := ?_) #[true, false, true, false, false, true, false, false, false, false, false, false, false, false, false, false, false, false, false, false, false, false, false, false, false, false, false, false] rfl rfl (any_of HT_.out (by kernel_rfl)) (fun _ _ _ h => h) (Or.inl ⟨by rfl, ?_⟩) ?_ ?_
                  rotate_left
                  · intro w'
                    go_simp
                    with_reducible rfl
                  rotate_left
                  · simp only [Act.put, List.setIfInBounds_toArray, List.set_cons_zero, List.set_cons_succ, i64_w, i32_w]
                    rfl
                  refine pure_ (i := 7) (N := some 43) (v := ?_) (a' := ?_) #[true, false, true, false, false, true, false, true, false, false, false, false, false, false, false, false, false, false, false, false, false, false, false, false, false, false, false, false] rfl rfl (any_of HT_.out (by kernel_rfl)) (fun _ _ _ h => h) (Or.inl ⟨by rfl, ?_⟩) ?_ ?_
                  rotate_left
                  · intro w'
                    go_simp
                    with_reducible rfl
                  rotate_left
                  · simp only [Act.put, List.setIfInBounds_toArray, List.set_cons_zero, List.set_cons_succ, i64_w, i32_w]
                    rfl
                  refine pure_ (i := 10) (N := some 46) (v := ?_) (a' := ?_) #[true, false, true, false, false, true, false, true, false, false, true, false, false, false, false, false, false, false, false, false, false, false, false, false, false, false, false, false] rfl rfl (any_of HT_.out (by kernel_rfl)) (fun _ _ _ h => h) (Or.inl ⟨by rfl, ?_⟩) ?_ ?_
                  rotate_left
                  · intro w'
                    go_simp
                    with_reducible rfl
                  rotate_left
                  · simp only [Act.put, List.setIfInBounds_toArray, List.set_cons_zero, List.set_cons_succ, i64_w, i32_w]
                    rfl
                  refine pure_ (i := 13) (N := some 49) (v := ?_) (a' := ?_) #[true, false, true, false, false, true, false, true, false, false, true, false, false, true, false, false, false, false, false, false, false, false, false, false, false, false, false, false] rfl rfl (any_of HT_.out (by kernel_rfl)) (fun _ _ _ h => h) (Or.inl ⟨by rfl, ?_⟩) ?_ ?_
                  rotate_left
                  · intro w'
                    go_simp
                    with_reducible rfl
                  rotate_left
                  · simp only [Act.put, List.setIfInBounds_toArray, List.set_cons_zero, List.set_cons_succ, i64_w, i32_w]
                    rfl
                  refine pure_ (i := 17) (N := some 53) (v := ?_) (a' := ?_) #[true, false, true, false, false, true, false, true, false, false, true, false, false, true, false, false, false, true, false, false, false, false, false, false, false, false, false, false] rfl rfl (any_of HT_.out (by kernel_rfl)) (fun _ _ _ h => h) (Or.inl ⟨by rfl, ?_⟩) ?_ ?_
                  rotate_left
                  · intro w'
                    go_simp
                    with_reducible rfl
                  rotate_left
                  · simp only [Act.put, List.setIfInBounds_toArray, List.set_cons_zero, List.set_cons_succ, i64_w, i32_w]
                    rfl
                  refine pure_ (i := 20) (N := some 56) (v := ?_) (a' := ?_) #[true, false, true, false, false, true, false, true, false, false, true, false, false, true, false, false, false, true, false, false, true, false, false, false, false, false, false, false] rfl rfl (any_of HT_.out (by kernel_rfl)) (fun _ _ _ h => h) (Or.inl ⟨by rfl, ?_⟩) ?_ ?_
                  rotate_left
                  · intro w'
                    go_simp
                    with_reducible rfl
                  rotate_left
                  · simp only [Act.put, List.setIfInBounds_toArray, List.set_cons_zero, List.set_cons_succ, i64_w, i32_w]
                    rfl
                  refine take_ (i := 1) (N := some 37) (v := ?_) (a' := ?_) #[true, true, true, false, false, true, false, true, false, false, true, false, false, true, false, false, false, true, false, false, true, false, false, false, false, false, false, false] rfl rfl (take_ofW HT_.out HW_.out (by kernel_rfl)) (fun _ _ _ h => h) (Or.inl ⟨by rfl, ?_⟩) hHeld ?_ ?_
                  rotate_left
                  · rintro w' ⟨s0, s1, s2, s3, s4, s5, s6, s7, s8, s9⟩
                    go_simp
                    with_reducible rfl
                  rotate_left
                  · simp only [Act.put, List.setIfInBounds_toArray, List.set_cons_zero, List.set_cons_succ, i64_w, i32_w]
                    rfl
                  refine take_ (i := 3) (N := some 39) (v := ?_) (a' := ?_) #[true, true, true, true, false, true, false, true, false, false, true, false, false, true, false, false, false, true, false, false, true, false, false, false, false, false, false, false] rfl rfl (take_ofW HT_.out HW_.out (by kernel_rfl)) (fun _ _ _ h => h) (Or.inl ⟨by rfl, ?_⟩) hHeld ?_ ?_
                  rotate_left
                  · rintro w' ⟨s0, s1, s2, s3, s4, s5, s6, s7, s8, s9⟩
                    go_simp
                    with_reducible rfl
                  rotate_left
                  · simp only [Act.put, List.setIfInBounds_toArray, List.set_cons_zero, List.set_cons_succ, i64_w, i32_w]
                    rfl
                  refine take_ (i := 6) (N := some 42) (v := ?_) (a' := ?_) #[true, true, true, true, false, true, true, true, false, false, true, false, false, true, false, false, false, true, false, false, true, false, false, false, false, false, false, false] rfl rfl (take_ofW HT_.out HW_.out (by kernel_rfl)) (fun _ _ _ h => h) (Or.inl ⟨by rfl, ?_⟩) hHeld ?_ ?_
                  rotate_left
                  · rintro w' ⟨s0, s1, s2, s3, s4, s5, s6, s7, s8, s9⟩
                    go_simp
                    with_reducible rfl
                  rotate_left
                  · simp only [Act.put, List.setIfInBounds_toArray, List.set_cons_zero, List.set_cons_succ, i64_w, i32_w]
                    rfl
                  refine take_ (i := 8) (N := some 44) (v := ?_) (a' := ?_) #[true, true, true, true, false, true, true, true, true, false, true, false, false, true, false, false, false, true, false, false, true, false, false, false, false, false, false, false] rfl rfl (take_ofW HT_.out HW_.out (by kernel_rfl)) (fun _ _ _ h => h) (Or.inl ⟨by rfl, ?_⟩) hHeld ?_ ?_
                  rotate_left
                  · rintro w' ⟨s0, s1, s2, s3, s4, s5, s6, s7, s8, s9⟩
                    go_simp
                    with_reducible rfl
                  rotate_left
                  · simp only [Act.put, List.setIfInBounds_toArray, List.set_cons_zero, List.set_cons_succ, i64_w, i32_w]
                    rfl
                  refine take_ (i := 11) (N := some 47) (v := ?_) (a' := ?_) #[true, true, true, true, false, true, true, true, true, false, true, true, false, true, false, false, false, true, false, false, true, false, false, false, false, false, false, false] rfl rfl (take_ofW HT_.out HW_.out (by kernel_rfl)) (fun _ _ _ h => h) (Or.inl ⟨by rfl, ?_⟩) hHeld ?_ ?_
                  rotate_left
                  · rintro w' ⟨s0, s1, s2, s3, s4, s5, s6, s7, s8, s9⟩
                    go_simp
                    with_reducible rfl
                  rotate_left
                  · simp only [Act.put, List.setIfInBounds_toArray, List.set_cons_zero, List.set_cons_succ, i64_w, i32_w]
                    rfl
                  refine take_ (i := 14) (N := some 50) (v := ?_) (a' := ?_) #[true, true, true, true, false, true, true, true, true, false, true, true, false, true, true, false, false, true, false, false, true, false, false, false, false, false, false, false] rfl rfl (take_ofW HT_.out HW_.out (by kernel_rfl)) (fun _ _ _ h => h) (Or.inl ⟨by rfl, ?_⟩) hHeld ?_ ?_
                  rotate_left
                  · rintro w' ⟨s0, s1, s2, s3, s4, s5, s6, s7, s8, s9⟩
                    go_simp
                    with_reducible rfl
                  rotate_left
                  · simp only [Act.put, List.setIfInBounds_toArray, List.set_cons_zero, List.set_cons_succ, i64_w, i32_w]
                    rfl
                  refine take_ (i := 18) (N := some 54) (v := ?_) (a' := ?_) #[true, true, true, true, false, true, true, true, true, false, true, true, false, true, true, false, false, true, true, false, true, false, false, false, false, false, false, false] rfl rfl (take_ofW HT_.out HW_.out (by kernel_rfl)) (fun _ _ _ h => h) (Or.inl ⟨by rfl, ?_⟩) hHeld ?_ ?_
                  rotate_left
                  · rintro w' ⟨s0, s1, s2, s3, s4, s5, s6, s7, s8, s9⟩
                    go_simp
                    with_reducible rfl
                  rotate_left
                  · simp only [Act.put, List.setIfInBounds_toArray, List.set_cons_zero, List.set_cons_succ, i64_w, i32_w]
                    rfl
                  refine take_ (i := 21) (N := some 57) (v := ?_) (a' := ?_) #[true, true, true, true, false, true, true, true, true, false, true, true, false, true, true, false, false, true, true, false, true, true, false, false, false, false, false, false] rfl rfl (take_ofW HT_.out HW_.out (by kernel_rfl)) (fun _ _ _ h => h) (Or.inl ⟨by rfl, ?_⟩) hHeld ?_ ?_
                  rotate_left
                  · rintro w' ⟨s0, s1, s2, s3, s4, s5, s6, s7, s8, s9⟩
                    go_simp
                    with_reducible rfl
                  rotate_left
                  · simp only [Act.put, List.setIfInBounds_toArray, List.set_cons_zero, List.set_cons_succ, i64_w, i32_w]
                    rfl
                  refine one_ (i := 4) (N := some 40) #[true, true, true, true, true, true, true, true, true, false, true, true, false, true, true, false, false, true, true, false, true, true, false, false, false, false, false, false] rfl rfl (one_of HT_.out (by kernel_rfl)) (by decide) (fun K hK => ?_)
                  refine goes_ Tryz.func42 (by kernel_rfl) rfl #[.int .i64 x168000_19, .int .i64 x169000_31] (by rfl) rfl rfl (by (try simp only [List.map_toArray, List.map_cons, List.map_nil]); first | done | rfl | (simp only [List.length_drop, List.length_take]; rfl) | (simp only [ByteArray.size_append, Int.natCast_add]; done) | (simp only [ByteArray.size_append, Int.natCast_add]; rfl) | (simp only [Array.mk.injEq, List.cons.injEq, Value.int.injEq, true_and, and_true]; (try simp only [mx, mn, wrap64] at *); omega)) ?_
                  with_reducible refine (api_Kind_42.calls x168000_19 x169000_31 t175 _ A39.out).mono ?_
                  rintro e w' ⟨rfl, ⟨nd, rfl⟩⟩
                  refine ⟨_, rfl, ?_⟩
                  refine hK.out _ _ ⟨(blk_cell BK167.out 0).trans rfl, (blk_cell BK167.out 1).trans rfl, (blk_cell BK167.out 2).trans rfl, (blk_cell BK167.out 3).trans rfl, (blk_cell BK167.out 4).trans rfl, (blk_cell BK168.out 0).trans rfl, (blk_cell BK168.out 1).trans rfl, (blk_cell BK168.out 2).trans rfl, (blk_cell BK168.out 3).trans rfl, (blk_cell BK168.out 4).trans rfl⟩ (fun hHeld => ?_)
                  clear hK K
                  refine norm_ (a' := ?_) ?_ ?_
                  rotate_left
                  · show Act.put _ (some 40) _ = _
                    simp only [Act.put, List.setIfInBounds_toArray, List.set_cons_zero, List.set_cons_succ, i64_w, i32_w]
                    rfl
                  refine one_ (i := 9) (N := some 45) #[true, true, true, true, true, true, true, true, true, true, true, true, false, true, true, false, false, true, true, false, true, true, false, false, false, false, false, false] rfl rfl (one_of HT_.out (by kernel_rfl)) (by decide) (fun K hK => ?_)
                  refine goes_ Tryz.func43 (by kernel_rfl) rfl #[.int .i64 a0_1, .int .i64 a1_1] (by rfl) rfl rfl (by (try simp only [List.map_toArray, List.map_cons, List.map_nil]); first | done | rfl | (simp only [List.length_drop, List.length_take]; rfl) | (simp only [ByteArray.size_append, Int.natCast_add]; done) | (simp only [ByteArray.size_append, Int.natCast_add]; rfl) | (simp only [Array.mk.injEq, List.cons.injEq, Value.int.injEq, true_and, and_true]; (try simp only [mx, mn, wrap64] at *); omega)) ?_
                  with_reducible refine (cmp_Compare_int.calls a0_1 a1_1 t176 _ A40.out).mono ?_
                  rintro e w' ⟨rfl, ⟨nd, rfl⟩⟩
                  refine ⟨_, rfl, ?_⟩
                  refine hK.out _ _ ⟨(blk_cell BK167.out 0).trans rfl, (blk_cell BK167.out 1).trans rfl, (blk_cell BK167.out 2).trans rfl, (blk_cell BK167.out 3).trans rfl, (blk_cell BK167.out 4).trans rfl, (blk_cell BK168.out 0).trans rfl, (blk_cell BK168.out 1).trans rfl, (blk_cell BK168.out 2).trans rfl, (blk_cell BK168.out 3).trans rfl, (blk_cell BK168.out 4).trans rfl⟩ (fun hHeld => ?_)
                  clear hK K
                  refine norm_ (a' := ?_) ?_ ?_
                  rotate_left
                  · show Act.put _ (some 45) _ = _
                    simp only [Act.put, List.setIfInBounds_toArray, List.set_cons_zero, List.set_cons_succ, i64_w, i32_w]
                    rfl
                  refine one_ (i := 12) (N := some 48) #[true, true, true, true, true, true, true, true, true, true, true, true, true, true, true, false, false, true, true, false, true, true, false, false, false, false, false, false] rfl rfl (one_of HT_.out (by kernel_rfl)) (by decide) (fun K hK => ?_)
                  refine goes_ Tryz.func15 (by kernel_rfl) rfl #[.string a0_2] (by rfl) rfl rfl (by (try simp only [List.map_toArray, List.map_cons, List.map_nil]); first | done | rfl | (simp only [List.length_drop, List.length_take]; rfl) | (simp only [ByteArray.size_append, Int.natCast_add]; done) | (simp only [ByteArray.size_append, Int.natCast_add]; rfl) | (simp only [Array.mk.injEq, List.cons.injEq, Value.int.injEq, true_and, and_true]; (try simp only [mx, mn, wrap64] at *); omega)) ?_
                  with_reducible refine (value_Fold.calls a0_2 t177 _ A41.out).mono ?_
                  rintro e w49 ⟨rfl, hb⟩
                  refine ⟨_, rfl, ?_⟩
                  have n0_ := Aside0.mk (blk_below (g := gb167) (o := .cells #[.int .i64 x168000_19, .int .i64 a0_1, .string a0_2, .bool a0_3, .int .i64 a0_4] 25 (0, 0)) (by (with_reducible repeat (first | refine blk_drewN ?_ _ | refine blk_drew ?_ | refine blk_alloc ?_ _)); exact BK167.out) hb)
                  have n1_ := Aside0.mk (blk_below (g := gb168) (o := .cells #[.int .i64 x169000_31, .int .i64 a1_1, .string a1_2, .bool a1_3, .int .i64 a1_4] 25 (0, 0)) (by (with_reducible repeat (first | refine blk_drewN ?_ _ | refine blk_drew ?_ | refine blk_alloc ?_ _)); exact BK168.out) hb)
                  have n2_ := Aside0.mk (below_step (by repeat (first | (with_reducible first | exact HB.out | apply below_alloc | apply pw_below_drewN | apply below_drew1 | refine below_set ?_ GE167.out | refine below_set ?_ GE168.out) | exact HB.out)) hb)
                  clear BK167
                  clear BK168
                  clear HB
                  have BK167 := n0_
                  have BK168 := n1_
                  have HB := n2_
                  clear n0_ n1_ n2_
                  (try clear hb)
                  (try clear hb2)
                  (try clear hk)
                  (try clear hi)
                  refine hK.out _ _ ⟨(blk_cell BK167.out 0).trans rfl, (blk_cell BK167.out 1).trans rfl, (blk_cell BK167.out 2).trans rfl, (blk_cell BK167.out 3).trans rfl, (blk_cell BK167.out 4).trans rfl, (blk_cell BK168.out 0).trans rfl, (blk_cell BK168.out 1).trans rfl, (blk_cell BK168.out 2).trans rfl, (blk_cell BK168.out 3).trans rfl, (blk_cell BK168.out 4).trans rfl⟩ (fun hHeld => ?_)
                  clear hK K
                  refine norm_ (a' := ?_) ?_ ?_
                  rotate_left
                  · show Act.put _ (some 48) _ = _
                    simp only [Act.put, List.setIfInBounds_toArray, List.set_cons_zero, List.set_cons_succ, i64_w, i32_w]
                    rfl
                  refine one_ (i := 15) (N := some 51) #[true, true, true, true, true, true, true, true, true, true, true, true, true, true, true, true, false, true, true, false, true, true, false, false, false, false, false, false] rfl rfl (one_of HT_.out (by kernel_rfl)) (by decide) (fun K hK => ?_)
                  refine goes_ Tryz.func15 (by kernel_rfl) rfl #[.string a1_2] (by rfl) rfl rfl (by (try simp only [List.map_toArray, List.map_cons, List.map_nil]); first | done | rfl | (simp only [List.length_drop, List.length_take]; rfl) | (simp only [ByteArray.size_append, Int.natCast_add]; done) | (simp only [ByteArray.size_append, Int.natCast_add]; rfl) | (simp only [Array.mk.injEq, List.cons.injEq, Value.int.injEq, true_and, and_true]; (try simp only [mx, mn, wrap64] at *); omega)) ?_
                  with_reducible refine (value_Fold.calls a1_2 t178 _ A42.out).mono ?_
                  rintro e w50 ⟨rfl, hb⟩
                  refine ⟨_, rfl, ?_⟩
                  have n0_ := Aside0.mk (blk_below (g := gb167) (o := .cells #[.int .i64 x168000_19, .int .i64 a0_1, .string a0_2, .bool a0_3, .int .i64 a0_4] 25 (0, 0)) (by (with_reducible repeat (first | refine blk_drewN ?_ _ | refine blk_drew ?_ | refine blk_alloc ?_ _)); exact BK167.out) hb)
                  have n1_ := Aside0.mk (blk_below (g := gb168) (o := .cells #[.int .i64 x169000_31, .int .i64 a1_1, .string a1_2, .bool a1_3, .int .i64 a1_4] 25 (0, 0)) (by (with_reducible repeat (first | refine blk_drewN ?_ _ | refine blk_drew ?_ | refine blk_alloc ?_ _)); exact BK168.out) hb)
                  have n2_ := Aside0.mk (below_step (by repeat (first | (with_reducible first | exact HB.out | apply below_alloc | apply pw_below_drewN | apply below_drew1 | refine below_set ?_ GE167.out | refine below_set ?_ GE168.out) | exact HB.out)) hb)
                  clear BK167
                  clear BK168
                  clear HB
                  have BK167 := n0_
                  have BK168 := n1_
                  have HB := n2_
                  clear n0_ n1_ n2_
                  (try clear hb)
                  (try clear hb2)
                  (try clear hk)
                  (try clear hi)
                  refine hK.out _ _ ⟨(blk_cell BK167.out 0).trans rfl, (blk_cell BK167.out 1).trans rfl, (blk_cell BK167.out 2).trans rfl, (blk_cell BK167.out 3).trans rfl, (blk_cell BK167.out 4).trans rfl, (blk_cell BK168.out 0).trans rfl, (blk_cell BK168.out 1).trans rfl, (blk_cell BK168.out 2).trans rfl, (blk_cell BK168.out 3).trans rfl, (blk_cell BK168.out 4).trans rfl⟩ (fun hHeld => ?_)
                  clear hK K
                  refine norm_ (a' := ?_) ?_ ?_
                  rotate_left
                  · show Act.put _ (some 51) _ = _
                    simp only [Act.put, List.setIfInBounds_toArray, List.set_cons_zero, List.set_cons_succ, i64_w, i32_w]
                    rfl
                  refine one_ (i := 16) (N := some 52) #[true, true, true, true, true, true, true, true, true, true, true, true, true, true, true, true, true, true, true, false, true, true, false, false, false, false, false, false] rfl rfl (one_of HT_.out (by kernel_rfl)) (by decide) (fun K hK => ?_)
                  refine goes_ Tryz.func44 (by kernel_rfl) rfl #[.string t177, .string t178] (by rfl) rfl rfl (by (try simp only [List.map_toArray, List.map_cons, List.map_nil]); first | done | rfl | (simp only [List.length_drop, List.length_take]; rfl) | (simp only [ByteArray.size_append, Int.natCast_add]; done) | (simp only [ByteArray.size_append, Int.natCast_add]; rfl) | (simp only [Array.mk.injEq, List.cons.injEq, Value.int.injEq, true_and, and_true]; (try simp only [mx, mn, wrap64] at *); omega)) ?_
                  with_reducible refine (strings_Compare.calls t177 t178 t179 _ A43.out).mono ?_
                  rintro e w' ⟨rfl, ⟨nd, rfl⟩⟩
                  refine ⟨_, rfl, ?_⟩
                  refine hK.out _ _ ⟨(blk_cell BK167.out 0).trans rfl, (blk_cell BK167.out 1).trans rfl, (blk_cell BK167.out 2).trans rfl, (blk_cell BK167.out 3).trans rfl, (blk_cell BK167.out 4).trans rfl, (blk_cell BK168.out 0).trans rfl, (blk_cell BK168.out 1).trans rfl, (blk_cell BK168.out 2).trans rfl, (blk_cell BK168.out 3).trans rfl, (blk_cell BK168.out 4).trans rfl⟩ (fun hHeld => ?_)
                  clear hK K
                  refine norm_ (a' := ?_) ?_ ?_
                  rotate_left
                  · show Act.put _ (some 52) _ = _
                    simp only [Act.put, List.setIfInBounds_toArray, List.set_cons_zero, List.set_cons_succ, i64_w, i32_w]
                    rfl
                  refine one_ (i := 19) (N := some 55) #[true, true, true, true, true, true, true, true, true, true, true, true, true, true, true, true, true, true, true, true, true, true, false, false, false, false, false, false] rfl rfl (one_of HT_.out (by kernel_rfl)) (by decide) (fun K hK => ?_)
                  refine goes_ Tryz.func45 (by kernel_rfl) rfl #[.bool a0_3] (by rfl) rfl rfl (by (try simp only [List.map_toArray, List.map_cons, List.map_nil]); first | done | rfl | (simp only [List.length_drop, List.length_take]; rfl) | (simp only [ByteArray.size_append, Int.natCast_add]; done) | (simp only [ByteArray.size_append, Int.natCast_add]; rfl) | (simp only [Array.mk.injEq, List.cons.injEq, Value.int.injEq, true_and, and_true]; (try simp only [mx, mn, wrap64] at *); omega)) ?_
                  with_reducible refine (value_rank.calls a0_3 t180 _ A44.out).mono ?_
                  rintro e w' ⟨rfl, ⟨nd, rfl⟩⟩
                  refine ⟨_, rfl, ?_⟩
                  refine hK.out _ _ ⟨(blk_cell BK167.out 0).trans rfl, (blk_cell BK167.out 1).trans rfl, (blk_cell BK167.out 2).trans rfl, (blk_cell BK167.out 3).trans rfl, (blk_cell BK167.out 4).trans rfl, (blk_cell BK168.out 0).trans rfl, (blk_cell BK168.out 1).trans rfl, (blk_cell BK168.out 2).trans rfl, (blk_cell BK168.out 3).trans rfl, (blk_cell BK168.out 4).trans rfl⟩ (fun hHeld => ?_)
                  clear hK K
                  refine norm_ (a' := ?_) ?_ ?_
                  rotate_left
                  · show Act.put _ (some 55) _ = _
                    simp only [Act.put, List.setIfInBounds_toArray, List.set_cons_zero, List.set_cons_succ, i64_w, i32_w]
                    rfl
                  refine one_ (i := 22) (N := some 58) #[true, true, true, true, true, true, true, true, true, true, true, true, true, true, true, true, true, true, true, true, true, true, true, false, false, false, false, false] rfl rfl (one_of HT_.out (by kernel_rfl)) (by decide) (fun K hK => ?_)
                  refine goes_ Tryz.func45 (by kernel_rfl) rfl #[.bool a1_3] (by rfl) rfl rfl (by (try simp only [List.map_toArray, List.map_cons, List.map_nil]); first | done | rfl | (simp only [List.length_drop, List.length_take]; rfl) | (simp only [ByteArray.size_append, Int.natCast_add]; done) | (simp only [ByteArray.size_append, Int.natCast_add]; rfl) | (simp only [Array.mk.injEq, List.cons.injEq, Value.int.injEq, true_and, and_true]; (try simp only [mx, mn, wrap64] at *); omega)) ?_
                  with_reducible refine (value_rank.calls a1_3 t181 _ A45.out).mono ?_
                  rintro e w' ⟨rfl, ⟨nd, rfl⟩⟩
                  refine ⟨_, rfl, ?_⟩
                  refine hK.out _ _ ⟨(blk_cell BK167.out 0).trans rfl, (blk_cell BK167.out 1).trans rfl, (blk_cell BK167.out 2).trans rfl, (blk_cell BK167.out 3).trans rfl, (blk_cell BK167.out 4).trans rfl, (blk_cell BK168.out 0).trans rfl, (blk_cell BK168.out 1).trans rfl, (blk_cell BK168.out 2).trans rfl, (blk_cell BK168.out 3).trans rfl, (blk_cell BK168.out 4).trans rfl⟩ (fun hHeld => ?_)
                  clear hK K
                  refine norm_ (a' := ?_) ?_ ?_
                  rotate_left
                  · show Act.put _ (some 58) _ = _
                    simp only [Act.put, List.setIfInBounds_toArray, List.set_cons_zero, List.set_cons_succ, i64_w, i32_w]
                    rfl
                  refine one_ (i := 23) (N := some 59) #[true, true, true, true, true, true, true, true, true, true, true, true, true, true, true, true, true, true, true, true, true, true, true, true, false, false, false, false] rfl rfl (one_of HT_.out (by kernel_rfl)) (by decide) (fun K hK => ?_)
                  refine goes_ Tryz.func43 (by kernel_rfl) rfl #[.int .i64 t180, .int .i64 t181] (by rfl) rfl rfl (by (try simp only [List.map_toArray, List.map_cons, List.map_nil]); first | done | rfl | (simp only [List.length_drop, List.length_take]; rfl) | (simp only [ByteArray.size_append, Int.natCast_add]; done) | (simp only [ByteArray.size_append, Int.natCast_add]; rfl) | (simp only [Array.mk.injEq, List.cons.injEq, Value.int.injEq, true_and, and_true]; (try simp only [mx, mn, wrap64] at *); omega)) ?_
                  with_reducible refine (cmp_Compare_int.calls t180 t181 t182 _ A46.out).mono ?_
                  rintro e w' ⟨rfl, ⟨nd, rfl⟩⟩
                  refine ⟨_, rfl, ?_⟩
                  refine hK.out _ _ ⟨(blk_cell BK167.out 0).trans rfl, (blk_cell BK167.out 1).trans rfl, (blk_cell BK167.out 2).trans rfl, (blk_cell BK167.out 3).trans rfl, (blk_cell BK167.out 4).trans rfl, (blk_cell BK168.out 0).trans rfl, (blk_cell BK168.out 1).trans rfl, (blk_cell BK168.out 2).trans rfl, (blk_cell BK168.out 3).trans rfl, (blk_cell BK168.out 4).trans rfl⟩ (fun hHeld => ?_)
                  clear hK K
                  refine norm_ (a' := ?_) ?_ ?_
                  rotate_left
                  · show Act.put _ (some 59) _ = _
                    simp only [Act.put, List.setIfInBounds_toArray, List.set_cons_zero, List.set_cons_succ, i64_w, i32_w]
                    rfl
                  refine one_ (i := 24) (N := some 60) #[true, true, true, true, true, true, true, true, true, true, true, true, true, true, true, true, true, true, true, true, true, true, true, true, true, false, false, false] rfl rfl (one_of HT_.out (by kernel_rfl)) (by decide) (fun K hK => ?_)
                  refine Kd.R_lit_step (Kd.int .i64) _ 3 ?hg (N := 60) ?hd (xs := ([t175, t176, t179, t182] : List Int)) (inner := [.int .i64 t175, .int .i64 t176, .int .i64 t179, .int .i64 t182]) (ok := fun _ => True) (okp := fun _ => True) ?hr ?hp (fun _ hk => hk) trivial (Below.refl _ _) (Nat.le_refl _) (by simp) ?_; (case hd => rfl); (case hg => rfl); (case hr => first | (go_simp; done) | (go_simp; rfl)); (case hp => exact (Reps.one (show Kd.M (Kd.int .i64) _ _ _ t175 [.int .i64 t175] from rfl) (Reps.one (show Kd.M (Kd.int .i64) _ _ _ t176 [.int .i64 t176] from rfl) (Reps.one (show Kd.M (Kd.int .i64) _ _ _ t179 [.int .i64 t179] from rfl) (Reps.one (show Kd.M (Kd.int .i64) _ _ _ t182 [.int .i64 t182] from rfl) (Reps.none _ _))))))
                  intro v184 w51 ho52 hb hg_ hnew_
                  clear hg_ hnew_
                  (first | rw [← Ny183.out] at ho52 | (simp only [Int.reduceToNat] at ho52; rw [← Ny183.out] at ho52))
                  have n0_ := Aside0.mk (Kd.R_lower ho52 (below_size (by repeat (first | (with_reducible first | exact HB.out | apply below_alloc | apply pw_below_drewN | apply below_drew1 | refine below_set ?_ GE167.out | refine below_set ?_ GE168.out) | exact HB.out))))
                  have n1_ := Aside0.mk (blk_below (g := gb167) (o := .cells #[.int .i64 x168000_19, .int .i64 a0_1, .string a0_2, .bool a0_3, .int .i64 a0_4] 25 (0, 0)) (by (with_reducible repeat (first | refine blk_drewN ?_ _ | refine blk_drew ?_ | refine blk_alloc ?_ _)); exact BK167.out) hb)
                  have n2_ := Aside0.mk (blk_below (g := gb168) (o := .cells #[.int .i64 x169000_31, .int .i64 a1_1, .string a1_2, .bool a1_3, .int .i64 a1_4] 25 (0, 0)) (by (with_reducible repeat (first | refine blk_drewN ?_ _ | refine blk_drew ?_ | refine blk_alloc ?_ _)); exact BK168.out) hb)
                  have n3_ := Aside0.mk (below_step (by repeat (first | (with_reducible first | exact HB.out | apply below_alloc | apply pw_below_drewN | apply below_drew1 | refine below_set ?_ GE167.out | refine below_set ?_ GE168.out) | exact HB.out)) hb)
                  clear BK167
                  clear BK168
                  clear HB
                  have HO185 := n0_
                  have BK167 := n1_
                  have BK168 := n2_
                  have HB := n3_
                  clear n0_ n1_ n2_ n3_
                  clear hb ho52
                  obtain ⟨Ao53, co53, eo53⟩ := Kd.R_slice HO185.out
                  (first | subst eo53 | (injection eo53 with f1_ f2_ f3_; have f4_ := f1_.symm; have f5_ := f3_.symm; clear f1_ f2_ f3_; subst f4_; subst f5_))
                  refine hK.out _ _ ⟨(blk_cell BK167.out 0).trans rfl, (blk_cell BK167.out 1).trans rfl, (blk_cell BK167.out 2).trans rfl, (blk_cell BK167.out 3).trans rfl, (blk_cell BK167.out 4).trans rfl, (blk_cell BK168.out 0).trans rfl, (blk_cell BK168.out 1).trans rfl, (blk_cell BK168.out 2).trans rfl, (blk_cell BK168.out 3).trans rfl, (blk_cell BK168.out 4).trans rfl⟩ (fun hHeld => ?_)
                  clear hK K
                  refine norm_ (a' := ?_) ?_ ?_
                  rotate_left
                  · show Act.put _ (some 60) _ = _
                    simp only [Act.put, List.setIfInBounds_toArray, List.set_cons_zero, List.set_cons_succ, i64_w, i32_w]
                    rfl
                  refine one_ (i := 25) (N := some 61) #[true, true, true, true, true, true, true, true, true, true, true, true, true, true, true, true, true, true, true, true, true, true, true, true, true, true, false, false] rfl rfl (one_of HT_.out (by kernel_rfl)) (by decide) (fun K hK => ?_)
                  refine goes_ Tryz.func41 (by kernel_rfl) rfl #[.slice Ao53 y183.length co53] (by rfl) rfl rfl (by (try simp only [List.map_toArray, List.map_cons, List.map_nil]); first | done | rfl | (simp only [List.length_drop, List.length_take]; rfl) | (simp only [ByteArray.size_append, Int.natCast_add]; done) | (simp only [ByteArray.size_append, Int.natCast_add]; rfl) | (simp only [Array.mk.injEq, List.cons.injEq, Value.int.injEq, true_and, and_true]; (try simp only [mx, mn, wrap64] at *); omega)) ?_
                  with_reducible refine (cmp_Or_int.calls kj31 _ _ y183 t186 _ ?side1 ?side2 A47.out).mono ?_
                  (case side1 => repeat (first | exact (Kd.R_reads' HO185.out).2.2 | (with_reducible refine Kd.C_alloc ?_ _) | (with_reducible refine Kd.C_drewN ?_ _) | (with_reducible refine Kd.C_drew ?_)))
                  (case side2 => exact (Kd.R_reads' HO185.out).2.1)
                  rintro e w' ⟨rfl, ⟨nd, rfl⟩⟩
                  refine ⟨_, rfl, ?_⟩
                  refine hK.out _ _ ⟨(blk_cell BK167.out 0).trans rfl, (blk_cell BK167.out 1).trans rfl, (blk_cell BK167.out 2).trans rfl, (blk_cell BK167.out 3).trans rfl, (blk_cell BK167.out 4).trans rfl, (blk_cell BK168.out 0).trans rfl, (blk_cell BK168.out 1).trans rfl, (blk_cell BK168.out 2).trans rfl, (blk_cell BK168.out 3).trans rfl, (blk_cell BK168.out 4).trans rfl⟩ (fun hHeld => ?_)
                  clear hK K
                  refine norm_ (a' := ?_) ?_ ?_
                  rotate_left
                  · show Act.put _ (some 61) _ = _
                    simp only [Act.put, List.setIfInBounds_toArray, List.set_cons_zero, List.set_cons_succ, i64_w, i32_w]
                    rfl
                  refine pure_ (i := 26) (N := some 4) (v := ?_) (a' := ?_) #[true, true, true, true, true, true, true, true, true, true, true, true, true, true, true, true, true, true, true, true, true, true, true, true, true, true, true, false] rfl rfl (any_of HT_.out (by kernel_rfl)) (fun _ _ _ h => h) (Or.inl ⟨by rfl, ?_⟩) ?_ ?_
                  rotate_left
                  · intro w'
                    go_simp
                    with_reducible rfl
                  rotate_left
                  · simp only [Act.put, List.setIfInBounds_toArray, List.set_cons_zero, List.set_cons_succ, i64_w, i32_w]
                    rfl
                  refine pure_ (i := 27) (N := some 5) (v := ?_) (a' := ?_) #[true, true, true, true, true, true, true, true, true, true, true, true, true, true, true, true, true, true, true, true, true, true, true, true, true, true, true, true] rfl rfl (any_of HT_.out (by kernel_rfl)) (fun _ _ _ h => h) (Or.inl ⟨by rfl, ?_⟩) ?_ ?_
                  rotate_left
                  · intro w'
                    go_simp
                    with_reducible rfl
                  rotate_left
                  · simp only [Act.put, List.setIfInBounds_toArray, List.set_cons_zero, List.set_cons_succ, i64_w, i32_w]
                    rfl
                  refine done_ (done_of HT_.out (by kernel_rfl)) ?_
                  try go_wp2
                  go_ret2
                  exact ⟨by first | rfl | (simp [errW_none, errW_some] <;> rfl) | (simp [*, errW_none, errW_some] <;> rfl), by repeat (first | (with_reducible first | exact HB.out | apply below_alloc | apply pw_below_drewN | apply below_drew1 | refine below_set ?_ GE167.out | refine below_set ?_ GE168.out) | exact HB.out)⟩
        · rw [if_neg c19] at H
          have c19b0 : (t174 == 0) = false := beq_eq_false_iff_ne.mpr c19
          have c19b1 : (t174 != 0) = true := bne_iff_ne.mpr c19
          simp only [Option.some.injEq, Prod.mk.injEq] at H
          obtain ⟨rfl, rfl⟩ := H
          have hnb54 := NB167_168.out
          have hnc54 := NB168_167.out
          have hcz55_0 : wc.cell? ⟨gb167, 0, none⟩ = some (.int .i64 a0_0) := (blk_cell BK167.out 0).trans rfl
          have hcz55_1 : wc.cell? ⟨gb167, 1, none⟩ = some (.int .i64 a0_1) := (blk_cell BK167.out 1).trans rfl
          have hcz55_2 : wc.cell? ⟨gb167, 2, none⟩ = some (.string a0_2) := (blk_cell BK167.out 2).trans rfl
          have hcz55_3 : wc.cell? ⟨gb167, 3, none⟩ = some (.bool a0_3) := (blk_cell BK167.out 3).trans rfl
          have hcz55_4 : wc.cell? ⟨gb167, 4, none⟩ = some (.int .i64 a0_4) := (blk_cell BK167.out 4).trans rfl
          have hfz55_0 := blk_frozen BK167.out 0
          have hfz55_1 := blk_frozen BK167.out 1
          have hfz55_2 := blk_frozen BK167.out 2
          have hfz55_3 := blk_frozen BK167.out 3
          have hfz55_4 := blk_frozen BK167.out 4
          have hcz56_0 : wc.cell? ⟨gb168, 0, none⟩ = some (.int .i64 a1_0) := (blk_cell BK168.out 0).trans rfl
          have hcz56_1 : wc.cell? ⟨gb168, 1, none⟩ = some (.int .i64 a1_1) := (blk_cell BK168.out 1).trans rfl
          have hcz56_2 : wc.cell? ⟨gb168, 2, none⟩ = some (.string a1_2) := (blk_cell BK168.out 2).trans rfl
          have hcz56_3 : wc.cell? ⟨gb168, 3, none⟩ = some (.bool a1_3) := (blk_cell BK168.out 3).trans rfl
          have hcz56_4 : wc.cell? ⟨gb168, 4, none⟩ = some (.int .i64 a1_4) := (blk_cell BK168.out 4).trans rfl
          have hfz56_0 := blk_frozen BK168.out 0
          have hfz56_1 := blk_frozen BK168.out 1
          have hfz56_2 := blk_frozen BK168.out 2
          have hfz56_3 := blk_frozen BK168.out 3
          have hfz56_4 := blk_frozen BK168.out 4
          go_wp2_with (first | ((with_reducible refine gate_dst (N := 19) rfl ?_); refine Kd.R_lit (Kd.int .i64) _ 23 ?hg (N := 19) ?hd (xs := ([a0_4, a1_4] : List Int)) (inner := [.int .i64 a0_4, .int .i64 a1_4]) (ok := fun _ => True) (okp := fun _ => True) ?hr ?hp (fun _ hk => hk) trivial (Below.refl _ _) (Nat.le_refl _) (by simp) ?_; (case hd => rfl); (case hg => rfl); (case hr => first | (go_simp; done) | (go_simp; rfl)); (case hp => exact (Reps.one (show Kd.M (Kd.int .i64) _ _ _ a0_4 [.int .i64 a0_4] from rfl) (Reps.one (show Kd.M (Kd.int .i64) _ _ _ a1_4 [.int .i64 a1_4] from rfl) (Reps.none _ _)))); intro v172 w57 ho58 hb hg_ hnew_; clear hg_ hnew_; (first | rw [← Ny171.out] at ho58 | (simp only [Int.reduceToNat] at ho58; rw [← Ny171.out] at ho58)); have n0_ := Aside0.mk (Kd.R_lower ho58 (below_size (by repeat (first | (with_reducible first | exact HB.out | apply below_alloc | apply pw_below_drewN | apply below_drew1 | refine below_set ?_ GE167.out | refine below_set ?_ GE168.out) | exact HB.out)))); have n1_ := Aside0.mk (blk_below (g := gb167) (o := .cells #[.int .i64 a0_0, .int .i64 a0_1, .string a0_2, .bool a0_3, .int .i64 a0_4] 25 (0, 0)) (by (with_reducible repeat (first | refine blk_drewN ?_ _ | refine blk_drew ?_ | refine blk_alloc ?_ _)); exact BK167.out) hb); have n2_ := Aside0.mk (blk_below (g := gb168) (o := .cells #[.int .i64 a1_0, .int .i64 a1_1, .string a1_2, .bool a1_3, .int .i64 a1_4] 25 (0, 0)) (by (with_reducible repeat (first | refine blk_drewN ?_ _ | refine blk_drew ?_ | refine blk_alloc ?_ _)); exact BK168.out) hb); have n3_ := Aside0.mk (below_step (by repeat (first | (with_reducible first | exact HB.out | apply below_alloc | apply pw_below_drewN | apply below_drew1 | refine below_set ?_ GE167.out | refine below_set ?_ GE168.out) | exact HB.out)) hb); clear BK167; clear BK168; clear HB; have HO173 := n0_; have BK167 := n1_; have BK168 := n2_; have HB := n3_; clear n0_ n1_ n2_ n3_; clear hb ho58; obtain ⟨Ao59, co59, eo59⟩ := Kd.R_slice HO173.out; subst eo59) | ((with_reducible refine gate_callee (f := 40) rfl ?_); refine goesL_ (some 20) rfl rfl Tryz.func40 (by kernel_rfl) rfl #[.slice Ao59 y171.length co59] rfl (by (try simp only [List.map_toArray, List.map_cons, List.map_nil]); first | done | rfl | (simp only [List.length_drop, List.length_take]; rfl) | (simp only [ByteArray.size_append, Int.natCast_add]; done) | (simp only [ByteArray.size_append, Int.natCast_add]; rfl) | (simp only [Array.mk.injEq, List.cons.injEq, Value.int.injEq, true_and, and_true]; (try simp only [mx, mn, wrap64] at *); omega)) ?_; (with_reducible refine (api_Code.calls kj2 _ _ y171 t174 _ ?side1 ?side2 A18.out).mono ?_); (case side1 => repeat (first | exact (Kd.R_reads' HO173.out).2.2 | (with_reducible refine Kd.C_alloc ?_ _) | (with_reducible refine Kd.C_drewN ?_ _) | (with_reducible refine Kd.C_drew ?_))); (case side2 => exact (Kd.R_reads' HO173.out).2.1); rintro e w' ⟨rfl, ⟨nd, rfl⟩⟩; refine ⟨_, rfl, ?_⟩))
          go_ret2
          exact ⟨by first | rfl | (simp [errW_none, errW_some] <;> rfl) | (simp [*, errW_none, errW_some] <;> rfl), by repeat (first | (with_reducible first | exact HB.out | apply below_alloc | apply pw_below_drewN | apply below_drew1 | refine below_set ?_ GE167.out | refine below_set ?_ GE168.out) | exact HB.out)⟩
end Go.Proofs.YtgjdlimbkjdhjaaGreatDoor.Pr
end
section
namespace Go.Proofs.YtgjdlimbkjdhjaaGreatDoor.Pr
set_option linter.unusedVariables false
set_option linter.unusedSimpArgs false
open Go.RowKit Go.Proofs.YtgjdlimbkjdhjaaGreatDoorW.PrintWords Go.Proofs.YtgjdlimbkjdhjaaGreatDoorW.PrintMore
def nm0 : ByteArray := ⟨#[]⟩
def nm1 : ByteArray := ⟨#[35, 68, 73, 86, 47, 48, 33]⟩
def nm2 : ByteArray := ⟨#[35, 86, 65, 76, 85, 69, 33]⟩
def nm3 : ByteArray := ⟨#[35, 82, 69, 70, 33]⟩
def nm4 : ByteArray := ⟨#[35, 78, 65, 77, 69, 63]⟩
def nm5 : ByteArray := ⟨#[35, 78, 85, 77, 33]⟩
def nm6 : ByteArray := ⟨#[35, 78, 47, 65]⟩
def nm7 : ByteArray := ⟨#[35, 67, 89, 67, 76, 69, 33]⟩
def namesV : Value := .agg #[.string ⟨#[]⟩, .string ⟨#[35, 68, 73, 86, 47, 48, 33]⟩, .string ⟨#[35, 86, 65, 76, 85, 69, 33]⟩, .string ⟨#[35, 82, 69, 70, 33]⟩, .string ⟨#[35, 78, 65, 77, 69, 63]⟩, .string ⟨#[35, 78, 85, 77, 33]⟩, .string ⟨#[35, 78, 47, 65]⟩, .string ⟨#[35, 67, 89, 67, 76, 69, 33]⟩]
theorem value_names.calls (w : World) :
    Calls Tryz.prog 33 #[] w fun e w' => e = .returned (.agg #[.string ⟨#[]⟩, .string ⟨#[35, 68, 73, 86, 47, 48, 33]⟩, .string ⟨#[35, 86, 65, 76, 85, 69, 33]⟩, .string ⟨#[35, 82, 69, 70, 33]⟩, .string ⟨#[35, 78, 65, 77, 69, 63]⟩, .string ⟨#[35, 78, 85, 77, 33]⟩, .string ⟨#[35, 78, 47, 65]⟩, .string ⟨#[35, 67, 89, 67, 76, 69, 33]⟩]) ∧ Below w.heap.size w w' := by
  go_enter Tryz.func33, Tryz.ntmps33
  go_wp2
  refine bodyPost_ret (v := namesV) ?_ rfl ⟨rfl, below_alloc (Below.refl _ _) _⟩
  simp [results, Tryz.results33, go_sem, namesV]
def nameZ (c : Int) : ByteArray := if c = 1 then nm1 else if c = 2 then nm2 else if c = 3 then nm3 else if c = 4 then nm4 else if c = 5 then nm5 else if c = 6 then nm6 else if c = 7 then nm7 else nm0
theorem boxed_cell {w w1 : World} {cs : Array Value} {t : TypeId} {v : Value} (hb : Below (w.alloc (.cells cs t)).heap.size (w.alloc (.cells cs t)) w1) (j : Nat) (h : cs[j]? = some v) : w1.cell? ⟨w.heap.size, j, none⟩ = some v := by
  rw [hb.cell (p := ⟨w.heap.size, j, none⟩) (by show w.heap.size < (w.heap.push _).size; simp)]
  rw [World.cell?_alloc_new]; exact h
theorem boxed_size {w w1 : World} {cs : Array Value} {t : TypeId} (hb : Below (w.alloc (.cells cs t)).heap.size (w.alloc (.cells cs t)) w1) : w.heap.size < w1.heap.size := by
  have := hb.size
  have e : (w.alloc (.cells cs t)).heap.size = w.heap.size + 1 := by show (w.heap.push _).size = _; simp
  omega
theorem boxed_below {w w1 : World} {cs : Array Value} {t : TypeId} (hb : Below (w.alloc (.cells cs t)).heap.size (w.alloc (.cells cs t)) w1) : Below w.heap.size w w1 :=
  ((Below.refl _ _).alloc (Nat.le_refl _) _).trans (hb.mono (by show _ ≤ (w.heap.push _).size; simp))
theorem boxed_trans {w w1 w2 : World} {cs : Array Value} {t : TypeId} (hb : Below (w.alloc (.cells cs t)).heap.size (w.alloc (.cells cs t)) w1) (hb2 : Below w1.heap.size w1 w2) : Below (w.alloc (.cells cs t)).heap.size (w.alloc (.cells cs t)) w2 :=
  hb.trans (hb2.mono hb.size)
def value_Show.f (a0_0 : Int) (a0_1 : Int) (a0_2 : ByteArray) (a0_3 : Bool) (a0_4 : Int) : Option (ByteArray × Int) := (value_Check.f a0_0 a0_1 a0_2 a0_3 a0_4).bind fun t => if t = 0 then ((value_Words.f a0_0 a0_1 a0_2 a0_3 a0_4).bind fun bt => if bt.2 = 0 then some (bt.1, 0) else if 1 ≤ bt.2 ∧ bt.2 ≤ 7 then some (nameZ bt.2, 0) else none) else some ((⟨#[]⟩ : ByteArray), 2)
theorem value_Show_no (a0_0 : Int) (a0_1 : Int) (a0_2 : ByteArray) (a0_3 : Bool) (a0_4 t : Int) (w : World) (h : value_Check.f a0_0 a0_1 a0_2 a0_3 a0_4 = some t) (ht : ¬ t = 0) :
    Calls Tryz.prog 11 #[.agg #[.int .i64 a0_0, .int .i64 a0_1, .string a0_2, .bool a0_3, .int .i64 a0_4]] w fun e w' => e = .returned (.tuple #[.string (⟨#[]⟩ : ByteArray), .int .i64 2]) ∧ Below w.heap.size w w' := by
  have HA := Aside0.mk h
  clear h
  have ht1 : (t != 0) = true := bne_iff_ne.mpr ht
  go_enter Tryz.func11, Tryz.ntmps11
  go_wp2_with (go_at_call 18; (with_reducible refine (value_Check.calls _ _ _ _ _ _ _ HA.out).mono ?_); rintro e w1 ⟨rfl, hb⟩)
  go_ret2
  exact ⟨rfl, boxed_below hb⟩
theorem value_Show_words (a0_0 : Int) (a0_1 : Int) (a0_2 : ByteArray) (a0_3 : Bool) (a0_4 : Int) (s : ByteArray) (w : World) (h : value_Check.f a0_0 a0_1 a0_2 a0_3 a0_4 = some 0) (h2 : value_Words.f a0_0 a0_1 a0_2 a0_3 a0_4 = some (s, 0)) (hL0 : Aside0 (LaidW w)) :
    Calls Tryz.prog 11 #[.agg #[.int .i64 a0_0, .int .i64 a0_1, .string a0_2, .bool a0_3, .int .i64 a0_4]] w fun e w' => e = .returned (.tuple #[.string s, .int .i64 0]) ∧ Below w.heap.size w w' := by
  have HA := Aside0.mk h
  have HW := Aside0.mk h2
  clear h h2
  go_enter Tryz.func11, Tryz.ntmps11
  go_wp2_with (first
    | (go_at_call 18; (with_reducible refine (value_Check.calls _ _ _ _ _ _ _ HA.out).mono ?_); rintro e w1 ⟨rfl, hb⟩; have c0 := boxed_cell hb 0 rfl; have c1 := boxed_cell hb 1 rfl; have c2 := boxed_cell hb 2 rfl; have c3 := boxed_cell hb 3 rfl; have c4 := boxed_cell hb 4 rfl; have HB := Aside0.mk hb; clear hb)
    | (go_at_call 26; (with_reducible refine (value_Words.calls _ _ _ _ _ _ _ _ HW.out (LaidAt hL0 (boxed_below HB.out))).mono ?_); rintro e w2 ⟨rfl, hb2⟩))
  go_ret2
  exact ⟨rfl, boxed_below (boxed_trans HB.out hb2)⟩
theorem names_index (w : World) (c : Int) (h1 : 1 ≤ c) (h7 : c ≤ 7) :
    (Instr.index 58 (.agg #[.string ⟨#[]⟩, .string ⟨#[35, 68, 73, 86, 47, 48, 33]⟩, .string ⟨#[35, 86, 65, 76, 85, 69, 33]⟩, .string ⟨#[35, 82, 69, 70, 33]⟩, .string ⟨#[35, 78, 65, 77, 69, 63]⟩, .string ⟨#[35, 78, 85, 77, 33]⟩, .string ⟨#[35, 78, 47, 65]⟩, .string ⟨#[35, 67, 89, 67, 76, 69, 33]⟩]) (.int .i64 c)).run Tryz.prog w = .ok (.string (nameZ c)) w := by
  have hc : c = 1 ∨ c = 2 ∨ c = 3 ∨ c = 4 ∨ c = 5 ∨ c = 6 ∨ c = 7 := by omega
  rcases hc with rfl | rfl | rfl | rfl | rfl | rfl | rfl
  all_goals
    simp [Instr.index, run_underlying Tryz.underlying58, asIntOf, go_sem, nameZ, nm1, nm2, nm3, nm4, nm5, nm6, nm7]
set_option maxHeartbeats 4000000 in
set_option maxRecDepth 100000 in
theorem value_Show_name (a0_0 : Int) (a0_1 : Int) (a0_2 : ByteArray) (a0_3 : Bool) (a0_4 : Int) (s : ByteArray) (c : Int) (w : World) (hc1 : 1 ≤ c) (hc7 : c ≤ 7) (h : value_Check.f a0_0 a0_1 a0_2 a0_3 a0_4 = some 0) (h2 : value_Words.f a0_0 a0_1 a0_2 a0_3 a0_4 = some (s, c)) (hL0 : Aside0 (LaidW w)) :
    Calls Tryz.prog 11 #[.agg #[.int .i64 a0_0, .int .i64 a0_1, .string a0_2, .bool a0_3, .int .i64 a0_4]] w fun e w' => e = .returned (.tuple #[.string (nameZ c), .int .i64 0]) ∧ Below w.heap.size w w' := by
  have HA := Aside0.mk h
  have HW := Aside0.mk h2
  have hne : (c != 0) = true := bne_iff_ne.mpr (by omega)
  clear h h2
  go_enter Tryz.func11, Tryz.ntmps11
  go_wp2_with (first
    | (go_at_call 18; (with_reducible refine (value_Check.calls _ _ _ _ _ _ _ HA.out).mono ?_); rintro e w1 ⟨rfl, hb⟩; have c0 := boxed_cell hb 0 rfl; have c1 := boxed_cell hb 1 rfl; have c2 := boxed_cell hb 2 rfl; have c3 := boxed_cell hb 3 rfl; have c4 := boxed_cell hb 4 rfl; have HB := Aside0.mk hb; clear hb)
    | (go_at_call 26; (with_reducible refine (value_Words.calls _ _ _ _ _ _ _ _ HW.out (LaidAt hL0 (boxed_below HB.out))).mono ?_); rintro e w2 ⟨rfl, hb2⟩)
    | (go_at_call 33; (with_reducible refine (value_names.calls _).mono ?_); rintro e w3 ⟨rfl, hb3⟩; have hix := names_index w3 c hc1 hc7))
  go_ret2
  exact ⟨rfl, boxed_below (boxed_trans (boxed_trans HB.out hb2) hb3)⟩
theorem value_Show.calls (a0_0 : Int) (a0_1 : Int) (a0_2 : ByteArray) (a0_3 : Bool) (a0_4 : Int) (r1 : ByteArray) (r2 : Int) (w : World) (h : value_Show.f a0_0 a0_1 a0_2 a0_3 a0_4 = some (r1, r2)) (hL0 : Aside0 (LaidW w)) :
    Calls Tryz.prog 11 #[.agg #[.int .i64 a0_0, .int .i64 a0_1, .string a0_2, .bool a0_3, .int .i64 a0_4]] w fun e w' => e = .returned (.tuple #[.string r1, .int .i64 r2]) ∧ Below w.heap.size w w' := by
  unfold value_Show.f at h
  obtain ⟨t, ht, h⟩ := Option.bind_eq_some_iff.mp h
  by_cases c : t = 0
  · rw [if_pos c] at h
    subst c
    obtain ⟨⟨s, c⟩, hw, h⟩ := Option.bind_eq_some_iff.mp h
    by_cases c0 : c = 0
    · subst c0
      rw [if_pos rfl] at h
      obtain ⟨rfl, rfl⟩ := Prod.mk.inj (Option.some.inj h)
      exact value_Show_words _ _ _ _ _ _ w ht hw hL0
    · rw [if_neg c0] at h
      by_cases c1 : 1 ≤ c ∧ c ≤ 7
      · rw [if_pos c1] at h
        obtain ⟨rfl, rfl⟩ := Prod.mk.inj (Option.some.inj h)
        exact value_Show_name _ _ _ _ _ s c w c1.1 c1.2 ht hw hL0
      · rw [if_neg c1] at h; cases h
  · rw [if_neg c] at h
    obtain ⟨rfl, rfl⟩ := Prod.mk.inj (Option.some.inj h)
    exact value_Show_no _ _ _ _ _ t w ht c
def nmI : Nat → ByteArray
  | 0 => nm0
  | 1 => nm1
  | 2 => nm2
  | 3 => nm3
  | 4 => nm4
  | 5 => nm5
  | 6 => nm6
  | _ => nm7
def nameOf (s : ByteArray) : Option Int := if s = nm1 then some 1 else if s = nm2 then some 2 else if s = nm3 then some 3 else if s = nm4 then some 4 else if s = nm5 then some 5 else if s = nm6 then some 6 else if s = nm7 then some 7 else none
theorem set_size (w : World) (a : Addr) (v : Value) : (w.setCell a v).heap.size = w.heap.size := by unfold World.setCell; simp
theorem toL (a : ByteArray) : a.toList = a.data.toList := by
  obtain ⟨⟨l⟩⟩ := a
  exact ByteArray.toList_eq _
theorem nm_of {l : List UInt8} {a : ByteArray} (h : (l == a.toList) = true) : (⟨l.toArray⟩ : ByteArray) = a := by
  rw [toL, beq_iff_eq] at h
  obtain ⟨⟨m⟩⟩ := a
  rw [h]
theorem nm_no {l : List UInt8} {a : ByteArray} (h : (l == a.toList) = false) : ¬ (⟨l.toArray⟩ : ByteArray) = a := by
  rw [toL, beq_eq_false_iff_ne] at h
  rintro rfl
  exact h rfl
theorem not_nil {a0 : ByteArray} (h : ¬ a0 = nm0) : a0.toList.isEmpty = false := by
  cases hh : a0.toList.isEmpty with
  | false => rfl
  | true =>
    refine absurd ?_ h
    rw [toL, List.isEmpty_iff] at hh
    obtain ⟨⟨m⟩⟩ := a0
    obtain rfl : m = [] := hh
    rfl
theorem nm0_ne {a0 : ByteArray} (h : a0.toList.isEmpty = false) : ¬ nmI 0 = a0 := by
  rintro rfl
  rw [toL] at h
  cases h
theorem more {a0 : ByteArray} {i : Nat} (h : ∀ j : Nat, j < i → ¬ nmI j = a0) (g : ¬ nmI i = a0) : ∀ j : Nat, j < i + 1 → ¬ nmI j = a0 := fun j hj => by
  by_cases e : j = i
  · subst e; exact g
  · exact h j (by omega)
theorem nameOf_none {a0 : ByteArray} (h : ∀ j : Nat, j < 8 → ¬ nmI j = a0) : nameOf a0 = none := by
  unfold nameOf
  rw [if_neg fun e => h 1 (by omega) e.symm, if_neg fun e => h 2 (by omega) e.symm, if_neg fun e => h 3 (by omega) e.symm, if_neg fun e => h 4 (by omega) e.symm, if_neg fun e => h 5 (by omega) e.symm, if_neg fun e => h 6 (by omega) e.symm, if_neg fun e => h 7 (by omega) e.symm]
theorem nameOf_some {a0 : ByteArray} (i : Nat) (h1 : 1 ≤ i) (h7 : i ≤ 7) (h : ∀ j : Nat, j < i → ¬ nmI j = a0) (e : nmI i = a0) : nameOf a0 = some (i : Int) := by
  subst e
  have hc : i = 1 ∨ i = 2 ∨ i = 3 ∨ i = 4 ∨ i = 5 ∨ i = 6 ∨ i = 7 := by omega
  rcases hc with rfl | rfl | rfl | rfl | rfl | rfl | rfl <;> (simp only [nmI]; decide)
def value_Read.f (k : Nat) (a0 : ByteArray) : Option (Int × Int × ByteArray × Bool × Int × Int) := if a0 = nm0 then some (0, 0, (⟨#[]⟩ : ByteArray), false, 0, 0) else (num_Parse.f k a0).bind fun bt => if bt.2 = 0 then some (1, bt.1, (⟨#[]⟩ : ByteArray), false, 0, 0) else (value_truth.f a0).bind fun tt => if tt.2 = true then some (3, 0, (⟨#[]⟩ : ByteArray), tt.1, 0, 0) else match nameOf a0 with
  | some i => some (4, 0, (⟨#[]⟩ : ByteArray), false, i, 0)
  | none => if (a0.size : Int) ≤ 255 then some (2, 0, a0, false, 0, 0) else some (0, 0, (⟨#[]⟩ : ByteArray), false, 0, 7)
theorem boxed_frozen {w w1 : World} {cs : Array Value} {t : TypeId} (hb : Below (w.alloc (.cells cs t)).heap.size (w.alloc (.cells cs t)) w1) (j : Nat) : w1.frozen? ⟨w.heap.size, j, none⟩ = false := by
  rw [hb.frozen (p := ⟨w.heap.size, j, none⟩) (by show w.heap.size < (w.heap.push _).size; simp)]
  apply World.frozen?_alloc_new
theorem value_Read_nil (w : World) :
    Calls Tryz.prog 13 #[.string nm0] w fun e w' => e = .returned (.tuple #[.agg #[.int .i64 0, .int .i64 0, .string (⟨#[]⟩ : ByteArray), .bool false, .int .i64 0], .int .i64 0]) ∧ Below w.heap.size w w' := by
  unfold nm0
  go_enter Tryz.func13, Tryz.ntmps13
  go_wp2
  exact bodyPost_ret (v := .tuple #[.agg #[.int .i64 0, .int .i64 0, .string (⟨#[]⟩ : ByteArray), .bool false, .int .i64 0], .int .i64 0]) (by simp [results, Tryz.results13, go_sem]) rfl ⟨rfl, below_alloc (Below.refl _ _) _⟩
set_option maxHeartbeats 4000000 in
set_option maxRecDepth 100000 in
theorem value_Read_num (a0 : ByteArray) (k : Nat) (n : Int) (w : World) (hn1 : a0.toList.isEmpty = false) (h : num_Parse.f k a0 = some (n, 0)) :
    Calls Tryz.prog 13 #[.string a0] w fun e w' => e = .returned (.tuple #[.agg #[.int .i64 1, .int .i64 n, .string (⟨#[]⟩ : ByteArray), .bool false, .int .i64 0], .int .i64 0]) ∧ Below w.heap.size w w' := by
  have HP := Aside0.mk h
  clear h
  go_enter Tryz.func13, Tryz.ntmps13
  go_wp2_with (go_at_call 36; (with_reducible refine (num_Parse.calls _ _ _ _ _ HP.out).mono ?_); rintro e w1 ⟨rfl, hb⟩; have c0 := boxed_cell hb 0 rfl; have c1 := boxed_cell hb 1 rfl; have c2 := boxed_cell hb 2 rfl; have c3 := boxed_cell hb 3 rfl; have c4 := boxed_cell hb 4 rfl; have f0 := boxed_frozen hb 0; have f1 := boxed_frozen hb 1; have f2 := boxed_frozen hb 2; have f3 := boxed_frozen hb 3; have f4 := boxed_frozen hb 4; have HB := Aside0.mk hb; clear hb)
  refine bodyPost_ret (v := .tuple #[.agg #[.int .i64 1, .int .i64 n, .string (⟨#[]⟩ : ByteArray), .bool false, .int .i64 0], .int .i64 0]) ?_ rfl ⟨rfl, below_set (below_set (below_set (below_set (below_set (boxed_below HB.out) (Nat.le_refl _)) (Nat.le_refl _)) (Nat.le_refl _)) (Nat.le_refl _)) (Nat.le_refl _)⟩
  simp [results, Tryz.results13, go_sem, c0, c1, c2, c3, c4]
set_option maxHeartbeats 4000000 in
set_option maxRecDepth 100000 in
theorem value_Read_bool (a0 : ByteArray) (k : Nat) (n e : Int) (b : Bool) (w : World) (hn1 : a0.toList.isEmpty = false) (h : num_Parse.f k a0 = some (n, e)) (he : (e == 0) = false) (ht : value_truth.f a0 = some (b, true)) :
    Calls Tryz.prog 13 #[.string a0] w fun e w' => e = .returned (.tuple #[.agg #[.int .i64 3, .int .i64 0, .string (⟨#[]⟩ : ByteArray), .bool b, .int .i64 0], .int .i64 0]) ∧ Below w.heap.size w w' := by
  have HP := Aside0.mk h
  have HT := Aside0.mk ht
  clear h ht
  go_enter Tryz.func13, Tryz.ntmps13
  go_wp2_with (first
    | (go_at_call 36; (with_reducible refine (num_Parse.calls _ _ _ _ _ HP.out).mono ?_); rintro e w1 ⟨rfl, hb1⟩)
    | (go_at_call 37; (with_reducible refine (value_truth.calls _ _ _ _ HT.out).mono ?_); rintro e w2 ⟨rfl, hb2⟩; have hb := boxed_trans hb1 hb2; have c0 := boxed_cell hb 0 rfl; have c1 := boxed_cell hb 1 rfl; have c2 := boxed_cell hb 2 rfl; have c3 := boxed_cell hb 3 rfl; have c4 := boxed_cell hb 4 rfl; have f0 := boxed_frozen hb 0; have f1 := boxed_frozen hb 1; have f2 := boxed_frozen hb 2; have f3 := boxed_frozen hb 3; have f4 := boxed_frozen hb 4; have HB := Aside0.mk hb; clear hb))
  refine bodyPost_ret (v := .tuple #[.agg #[.int .i64 3, .int .i64 0, .string (⟨#[]⟩ : ByteArray), .bool b, .int .i64 0], .int .i64 0]) ?_ rfl ⟨rfl, below_set (below_set (below_set (below_set (below_set (boxed_below HB.out) (Nat.le_refl _)) (Nat.le_refl _)) (Nat.le_refl _)) (Nat.le_refl _)) (Nat.le_refl _)⟩
  simp [results, Tryz.results13, go_sem, c0, c1, c2, c3, c4]
set_option maxHeartbeats 4000000 in
set_option maxRecDepth 100000 in
theorem value_Read_else (a0 : ByteArray) (k : Nat) (n e : Int) (b : Bool) (w : World) (hn1 : a0.toList.isEmpty = false) (h : num_Parse.f k a0 = some (n, e)) (he : (e == 0) = false) (ht : value_truth.f a0 = some (b, false)) (r : Value) (rc : Int)
    (hi : ∀ i, nameOf a0 = some i → r = .agg #[.int .i64 4, .int .i64 0, .string (⟨#[]⟩ : ByteArray), .bool false, .int .i64 i] ∧ rc = 0)
    (hs : nameOf a0 = none → a0.size ≤ 255 → r = .agg #[.int .i64 2, .int .i64 0, .string a0, .bool false, .int .i64 0] ∧ rc = 0)
    (hl : nameOf a0 = none → ¬ a0.size ≤ 255 → r = .agg #[.int .i64 0, .int .i64 0, .string (⟨#[]⟩ : ByteArray), .bool false, .int .i64 0] ∧ rc = 7) :
    Calls Tryz.prog 13 #[.string a0] w fun e w' => e = .returned (.tuple #[r, .int .i64 rc]) ∧ Below w.heap.size w w' := by
  have HP := Aside0.mk h
  have HT := Aside0.mk ht
  have HI := Aside0.mk hi
  have HS := Aside0.mk hs
  have HL := Aside0.mk hl
  clear h ht hi hs hl
  go_enter Tryz.func13, Tryz.ntmps13
  go_wp2_with (first
    | (go_at_call 36; (with_reducible refine (num_Parse.calls _ _ _ _ _ HP.out).mono ?_); rintro e w1 ⟨rfl, hb1⟩)
    | (go_at_call 37; (with_reducible refine (value_truth.calls _ _ _ _ HT.out).mono ?_); rintro e w2 ⟨rfl, hb2⟩)
    | (go_at_call 33; (with_reducible refine (value_names.calls _).mono ?_); rintro e w3 ⟨rfl, hb3⟩; have hb := boxed_trans (boxed_trans hb1 hb2) hb3; have hlt3 := boxed_size hb; have c0 := boxed_cell hb 0 rfl; have c1 := boxed_cell hb 1 rfl; have c2 := boxed_cell hb 2 rfl; have c3 := boxed_cell hb 3 rfl; have c4 := boxed_cell hb 4 rfl; have f0 := boxed_frozen hb 0; have f1 := boxed_frozen hb 1; have f2 := boxed_frozen hb 2; have f3 := boxed_frozen hb 3; have f4 := boxed_frozen hb 4; have HB := Aside0.mk hb; clear hb hb1 hb2 hb3))
  go_loop [31] (fun v => ∃ i : Nat, i ≤ 8 ∧ v = .int .i64 i ∧ ∀ j : Nat, j < i → ¬ nmI j = a0) (fun v => 8 - (intOf v).toNat)
  case atStart => exact ⟨0, by omega, rfl, fun j hj => by omega⟩
  case round =>
    obtain ⟨i, hi, rfl, hall⟩ := hrel
    have hc : i = 8 ∨ i = 0 ∨ i = 1 ∨ i = 2 ∨ i = 3 ∨ i = 4 ∨ i = 5 ∨ i = 6 ∨ i = 7 := by omega
    rcases hc with rfl | rfl | rfl | rfl | rfl | rfl | rfl | rfl | rfl
    · go_wp2
      · have hz : 255 < (a0.size : Int) := by assumption
        obtain ⟨rfl, rfl⟩ := HL.out (nameOf_none hall) (by omega)
        exact bodyPost_ret (v := .tuple #[.agg #[.int .i64 0, .int .i64 0, .string (⟨#[]⟩ : ByteArray), .bool false, .int .i64 0], .int .i64 7]) (by simp [results, Tryz.results13, go_sem, c0, c1, c2, c3, c4, hlt3, set_size]) rfl ⟨rfl, below_alloc (below_set (below_set (below_set (below_set (below_set (boxed_below HB.out) (Nat.le_refl _)) (Nat.le_refl _)) (Nat.le_refl _)) (Nat.le_refl _)) (Nat.le_refl _)) _⟩
      · have hz : (a0.size : Int) ≤ 255 := by assumption
        obtain ⟨rfl, rfl⟩ := HS.out (nameOf_none hall) (by omega)
        exact bodyPost_ret (v := .tuple #[.agg #[.int .i64 2, .int .i64 0, .string a0, .bool false, .int .i64 0], .int .i64 0]) (by simp [results, Tryz.results13, go_sem, c0, c1, c2, c3, c4, hlt3, set_size]) rfl ⟨rfl, below_alloc (below_set (below_set (below_set (below_set (below_set (boxed_below HB.out) (Nat.le_refl _)) (Nat.le_refl _)) (Nat.le_refl _)) (Nat.le_refl _)) (Nat.le_refl _)) _⟩
    · go_wp2
      exact ⟨⟨1, by omega, rfl, fun j hj => by obtain rfl : j = 0 := by omega
                                               exact nm0_ne hn1⟩, by simp [intOf]⟩
    · go_wp2
      · have hz : ([35, 68, 73, 86, 47, 48, 33] == a0.toList) = true := by assumption
        obtain ⟨rfl, rfl⟩ := HI.out 1 (nameOf_some 1 (by omega) (by omega) hall (nm_of (l := [35, 68, 73, 86, 47, 48, 33]) hz))
        exact bodyPost_ret (v := .tuple #[.agg #[.int .i64 4, .int .i64 0, .string (⟨#[]⟩ : ByteArray), .bool false, .int .i64 1], .int .i64 0]) (by simp [results, Tryz.results13, go_sem, c0, c1, c2, c3, c4, hlt3, set_size]) rfl ⟨rfl, below_alloc (below_set (below_set (below_set (below_set (below_set (boxed_below HB.out) (Nat.le_refl _)) (Nat.le_refl _)) (Nat.le_refl _)) (Nat.le_refl _)) (Nat.le_refl _)) _⟩
      · have hz : ([35, 68, 73, 86, 47, 48, 33] == a0.toList) = false := by assumption
        exact ⟨⟨2, by omega, rfl, more hall (nm_no (l := [35, 68, 73, 86, 47, 48, 33]) hz)⟩, by simp [intOf]⟩
    · go_wp2
      · have hz : ([35, 86, 65, 76, 85, 69, 33] == a0.toList) = true := by assumption
        obtain ⟨rfl, rfl⟩ := HI.out 2 (nameOf_some 2 (by omega) (by omega) hall (nm_of (l := [35, 86, 65, 76, 85, 69, 33]) hz))
        exact bodyPost_ret (v := .tuple #[.agg #[.int .i64 4, .int .i64 0, .string (⟨#[]⟩ : ByteArray), .bool false, .int .i64 2], .int .i64 0]) (by simp [results, Tryz.results13, go_sem, c0, c1, c2, c3, c4, hlt3, set_size]) rfl ⟨rfl, below_alloc (below_set (below_set (below_set (below_set (below_set (boxed_below HB.out) (Nat.le_refl _)) (Nat.le_refl _)) (Nat.le_refl _)) (Nat.le_refl _)) (Nat.le_refl _)) _⟩
      · have hz : ([35, 86, 65, 76, 85, 69, 33] == a0.toList) = false := by assumption
        exact ⟨⟨3, by omega, rfl, more hall (nm_no (l := [35, 86, 65, 76, 85, 69, 33]) hz)⟩, by simp [intOf]⟩
    · go_wp2
      · have hz : ([35, 82, 69, 70, 33] == a0.toList) = true := by assumption
        obtain ⟨rfl, rfl⟩ := HI.out 3 (nameOf_some 3 (by omega) (by omega) hall (nm_of (l := [35, 82, 69, 70, 33]) hz))
        exact bodyPost_ret (v := .tuple #[.agg #[.int .i64 4, .int .i64 0, .string (⟨#[]⟩ : ByteArray), .bool false, .int .i64 3], .int .i64 0]) (by simp [results, Tryz.results13, go_sem, c0, c1, c2, c3, c4, hlt3, set_size]) rfl ⟨rfl, below_alloc (below_set (below_set (below_set (below_set (below_set (boxed_below HB.out) (Nat.le_refl _)) (Nat.le_refl _)) (Nat.le_refl _)) (Nat.le_refl _)) (Nat.le_refl _)) _⟩
      · have hz : ([35, 82, 69, 70, 33] == a0.toList) = false := by assumption
        exact ⟨⟨4, by omega, rfl, more hall (nm_no (l := [35, 82, 69, 70, 33]) hz)⟩, by simp [intOf]⟩
    · go_wp2
      · have hz : ([35, 78, 65, 77, 69, 63] == a0.toList) = true := by assumption
        obtain ⟨rfl, rfl⟩ := HI.out 4 (nameOf_some 4 (by omega) (by omega) hall (nm_of (l := [35, 78, 65, 77, 69, 63]) hz))
        exact bodyPost_ret (v := .tuple #[.agg #[.int .i64 4, .int .i64 0, .string (⟨#[]⟩ : ByteArray), .bool false, .int .i64 4], .int .i64 0]) (by simp [results, Tryz.results13, go_sem, c0, c1, c2, c3, c4, hlt3, set_size]) rfl ⟨rfl, below_alloc (below_set (below_set (below_set (below_set (below_set (boxed_below HB.out) (Nat.le_refl _)) (Nat.le_refl _)) (Nat.le_refl _)) (Nat.le_refl _)) (Nat.le_refl _)) _⟩
      · have hz : ([35, 78, 65, 77, 69, 63] == a0.toList) = false := by assumption
        exact ⟨⟨5, by omega, rfl, more hall (nm_no (l := [35, 78, 65, 77, 69, 63]) hz)⟩, by simp [intOf]⟩
    · go_wp2
      · have hz : ([35, 78, 85, 77, 33] == a0.toList) = true := by assumption
        obtain ⟨rfl, rfl⟩ := HI.out 5 (nameOf_some 5 (by omega) (by omega) hall (nm_of (l := [35, 78, 85, 77, 33]) hz))
        exact bodyPost_ret (v := .tuple #[.agg #[.int .i64 4, .int .i64 0, .string (⟨#[]⟩ : ByteArray), .bool false, .int .i64 5], .int .i64 0]) (by simp [results, Tryz.results13, go_sem, c0, c1, c2, c3, c4, hlt3, set_size]) rfl ⟨rfl, below_alloc (below_set (below_set (below_set (below_set (below_set (boxed_below HB.out) (Nat.le_refl _)) (Nat.le_refl _)) (Nat.le_refl _)) (Nat.le_refl _)) (Nat.le_refl _)) _⟩
      · have hz : ([35, 78, 85, 77, 33] == a0.toList) = false := by assumption
        exact ⟨⟨6, by omega, rfl, more hall (nm_no (l := [35, 78, 85, 77, 33]) hz)⟩, by simp [intOf]⟩
    · go_wp2
      · have hz : ([35, 78, 47, 65] == a0.toList) = true := by assumption
        obtain ⟨rfl, rfl⟩ := HI.out 6 (nameOf_some 6 (by omega) (by omega) hall (nm_of (l := [35, 78, 47, 65]) hz))
        exact bodyPost_ret (v := .tuple #[.agg #[.int .i64 4, .int .i64 0, .string (⟨#[]⟩ : ByteArray), .bool false, .int .i64 6], .int .i64 0]) (by simp [results, Tryz.results13, go_sem, c0, c1, c2, c3, c4, hlt3, set_size]) rfl ⟨rfl, below_alloc (below_set (below_set (below_set (below_set (below_set (boxed_below HB.out) (Nat.le_refl _)) (Nat.le_refl _)) (Nat.le_refl _)) (Nat.le_refl _)) (Nat.le_refl _)) _⟩
      · have hz : ([35, 78, 47, 65] == a0.toList) = false := by assumption
        exact ⟨⟨7, by omega, rfl, more hall (nm_no (l := [35, 78, 47, 65]) hz)⟩, by simp [intOf]⟩
    · go_wp2
      · have hz : ([35, 67, 89, 67, 76, 69, 33] == a0.toList) = true := by assumption
        obtain ⟨rfl, rfl⟩ := HI.out 7 (nameOf_some 7 (by omega) (by omega) hall (nm_of (l := [35, 67, 89, 67, 76, 69, 33]) hz))
        exact bodyPost_ret (v := .tuple #[.agg #[.int .i64 4, .int .i64 0, .string (⟨#[]⟩ : ByteArray), .bool false, .int .i64 7], .int .i64 0]) (by simp [results, Tryz.results13, go_sem, c0, c1, c2, c3, c4, hlt3, set_size]) rfl ⟨rfl, below_alloc (below_set (below_set (below_set (below_set (below_set (boxed_below HB.out) (Nat.le_refl _)) (Nat.le_refl _)) (Nat.le_refl _)) (Nat.le_refl _)) (Nat.le_refl _)) _⟩
      · have hz : ([35, 67, 89, 67, 76, 69, 33] == a0.toList) = false := by assumption
        exact ⟨⟨8, by omega, rfl, more hall (nm_no (l := [35, 67, 89, 67, 76, 69, 33]) hz)⟩, by simp [intOf]⟩
theorem value_Read.calls (k : Nat) (a0 : ByteArray) (r1 : Int) (r2 : Int) (r3 : ByteArray) (r4 : Bool) (r5 : Int) (r6 : Int) (w : World) (h : value_Read.f k a0 = some (r1, r2, r3, r4, r5, r6)) :
    Calls Tryz.prog 13 #[.string a0] w fun e w' => e = .returned (.tuple #[.agg #[.int .i64 r1, .int .i64 r2, .string r3, .bool r4, .int .i64 r5], .int .i64 r6]) ∧ Below w.heap.size w w' := by
  unfold value_Read.f at h
  by_cases h0 : a0 = nm0
  · rw [if_pos h0] at h
    simp only [Option.some.injEq, Prod.mk.injEq] at h
    obtain ⟨rfl, rfl, rfl, rfl, rfl, rfl⟩ := h
    subst h0
    exact value_Read_nil w
  · rw [if_neg h0] at h
    have hn1 := not_nil h0
    obtain ⟨⟨n, e⟩, hp, h⟩ := Option.bind_eq_some_iff.mp h
    by_cases he : e = 0
    · subst he
      rw [if_pos rfl] at h
      simp only [Option.some.injEq, Prod.mk.injEq] at h
      obtain ⟨rfl, rfl, rfl, rfl, rfl, rfl⟩ := h
      exact value_Read_num a0 k _ w hn1 hp
    · rw [if_neg he] at h
      have he' : (e == 0) = false := beq_eq_false_iff_ne.mpr he
      obtain ⟨⟨b, t⟩, ht, h⟩ := Option.bind_eq_some_iff.mp h
      cases t with
      | true =>
        rw [if_pos rfl] at h
        simp only [Option.some.injEq, Prod.mk.injEq] at h
        obtain ⟨rfl, rfl, rfl, rfl, rfl, rfl⟩ := h
        exact value_Read_bool a0 k n e _ w hn1 hp he' ht
      | false =>
        rw [if_neg (show ¬ (false = true) by decide)] at h
        refine value_Read_else a0 k n e b w hn1 hp he' ht _ _ ?_ ?_ ?_
        · intro i hi
          rw [hi] at h
          simp only [Option.some.injEq, Prod.mk.injEq] at h
          obtain ⟨rfl, rfl, rfl, rfl, rfl, rfl⟩ := h
          exact ⟨rfl, rfl⟩
        · intro hi hs
          rw [hi] at h
          simp only at h
          rw [if_pos (by omega)] at h
          simp only [Option.some.injEq, Prod.mk.injEq] at h
          obtain ⟨rfl, rfl, rfl, rfl, rfl, rfl⟩ := h
          exact ⟨rfl, rfl⟩
        · intro hi hs
          rw [hi] at h
          simp only at h
          rw [if_neg (by omega)] at h
          simp only [Option.some.injEq, Prod.mk.injEq] at h
          obtain ⟨rfl, rfl, rfl, rfl, rfl, rfl⟩ := h
          exact ⟨rfl, rfl⟩
end Go.Proofs.YtgjdlimbkjdhjaaGreatDoor.Pr
end
