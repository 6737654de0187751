/-
  Lemmas for the law RFollowsRBack.
-/
import Derived.Test.YthnldbclbfpojaaGreatDoorSRFollowsRBack5
set_option maxHeartbeats 8000000
set_option maxRecDepth 100000
set_option linter.unusedVariables false
set_option linter.unusedSimpArgs false
section
namespace Go.Proofs.YthnldbclbfpojaaGreatDoor.Pr
open Go.RowKit Go.Proofs.YthnldbclbfpojaaGreatDoorW.PrintWords Go.Proofs.YthnldbclbfpojaaGreatDoorW.PrintLast Go.Proofs.YthnldbclbfpojaaGreatDoorW.PrintMore
attribute [local go_sem] max2_int min2_int max_two min_two max_three min_three max_four min_four   -- for this text's walks alone
def foolscapref07_sign.l0 : Nat → ByteArray → Int → List ByteArray → Int → Option (Int × Int × Int × ByteArray × Bool × Int × Int × Int × Bool × Bool × ByteArray × Int × Int × Int)
 | 0, _, _, _, _ => none
 | k + 1, x0, x1, x7, x8 => if x8 < (x7.length : Int) then (if 0 ≤ x8 then (if (wrap64 ((x0.size : Int) - x1)) ≥ ((rdOf ByteArray.empty x7 x8).size : Int) then (if 0 ≤ x1 then (if x1 ≤ (wrap64 (x1 + ((rdOf ByteArray.empty x7 x8).size : Int))) then (if (wrap64 (x1 + ((rdOf ByteArray.empty x7 x8).size : Int))) ≤ (x0.size : Int) then (if (x0.extract (x1 : Int).toNat ((wrap64 (x1 + ((rdOf ByteArray.empty x7 x8).size : Int))) : Int).toNat).toList = (rdOf ByteArray.empty x7 x8).toList then (some (4, 0, 0, (⟨#[]⟩ : ByteArray), false, 0, 0, 0, false, false, rdOf ByteArray.empty x7 x8, x1, wrap64 (x1 + ((rdOf ByteArray.empty x7 x8).size : Int)), 0)) else (foolscapref07_sign.l0 k x0 x1 x7 (wrap64 (x8 + 1)))) else (none)) else (none)) else (none)) else (foolscapref07_sign.l0 k x0 x1 x7 (wrap64 (x8 + 1)))) else (none)) else (some (0, 0, 0, (⟨#[]⟩ : ByteArray), false, 0, 0, 0, false, false, (⟨#[]⟩ : ByteArray), 0, 0, 5))
def foolscapref07_sign.f (k : Nat) (a0 : ByteArray) (a1 : Int) : Option (Int × Int × Int × ByteArray × Bool × Int × Int × Int × Bool × Bool × ByteArray × Int × Int × Int) := foolscapref07_sign.l0 k a0 a1 (([(⟨#[60, 62]⟩ : ByteArray), (⟨#[60, 61]⟩ : ByteArray), (⟨#[62, 61]⟩ : ByteArray), (⟨#[43]⟩ : ByteArray), (⟨#[45]⟩ : ByteArray), (⟨#[42]⟩ : ByteArray), (⟨#[47]⟩ : ByteArray), (⟨#[38]⟩ : ByteArray), (⟨#[61]⟩ : ByteArray), (⟨#[60]⟩ : ByteArray), (⟨#[62]⟩ : ByteArray), (⟨#[40]⟩ : ByteArray), (⟨#[41]⟩ : ByteArray), (⟨#[44]⟩ : ByteArray), (⟨#[58]⟩ : ByteArray)] : List ByteArray)) 0
def foolscapref07_sign.T5 : Bool × List (List Nat × List Nat) := (true, [([], []), ([0], [0]), ([], []), ([1, 2], [1, 2]), ([], []), ([], []), ([4, 5], [4, 5]), ([6], [6]), ([7], [7]), ([3, 8], [3, 8]), ([9], [9]), ([10], [10]), ([10], [10]), ([10], [10]), ([10], [10]), ([10], [10]), ([14, 15, 10], [10, 14, 15]), ([16, 10], [10, 16]), ([17, 10], [10, 17]), ([13, 18, 10], [10, 13, 18]), ([11, 12, 19, 10], [10, 11, 12, 19]), ([10], [10]), ([10], [10]), ([21, 22, 10], [10, 21, 22]), ([23, 10], [10, 23]), ([20, 24, 10], [10, 20, 24]), ([10, 25], [10, 25])])
def foolscapref07_sign.B5 : List Nat := [0, 1, 0, 7, 0, 0, 48, 112, 240, 511, 1023, 2047, 2047, 2047, 2047, 2047, 51199, 116735, 247807, 518143, 1048575, 2047, 2047, 6293503, 14682111, 33554431, 67108863]
theorem foolscapref07_sign.tab5 : rtab .any (opsOf Tryz.f124 5) = foolscapref07_sign.T5 := by kernel_rfl
theorem foolscapref07_sign.bits5 : waitsOk foolscapref07_sign.T5.2 foolscapref07_sign.B5 = true := by kernel_rfl
def foolscapref07_sign.T6 : Bool × List (List Nat × List Nat) := (true, [([], []), ([], []), ([0, 1], [0, 1]), ([2], [2]), ([], []), ([3, 4], [3, 4]), ([], []), ([], []), ([], []), ([7, 8], [7, 8]), ([9], [9]), ([10], [10]), ([6, 11], [6, 11]), ([5, 0, 1, 2, 3, 4, 5], [5]), ([12, 13, 0, 1, 2, 3, 4, 5, 6, 7, 8, 9, 10, 11, 12, 13], [12]), ([14, 0, 1, 2, 3, 4, 5, 6, 7, 8, 9, 10, 11, 12, 13, 14], [])])
def foolscapref07_sign.B6 : List Nat := [0, 0, 3, 7, 0, 31, 0, 0, 0, 384, 896, 1920, 4032, 63, 16383, 32767]
theorem foolscapref07_sign.tab6 : rtab .any (opsOf Tryz.f124 6) = foolscapref07_sign.T6 := by kernel_rfl
theorem foolscapref07_sign.bits6 : waitsOk foolscapref07_sign.T6.2 foolscapref07_sign.B6 = true := by kernel_rfl
theorem foolscapref07_sign.calls (k : Nat) (a0 : ByteArray) (a1 : Int) (r1 : Int) (r2 : Int) (r3 : Int) (r4 : ByteArray) (r5 : Bool) (r6 : Int) (r7 : Int) (r8 : Int) (r9 : Bool) (r10 : Bool) (r11 : ByteArray) (r12 : Int) (r13 : Int) (r14 : Int) (w : World) (h : foolscapref07_sign.f k a0 a1 = some (r1, r2, r3, r4, r5, r6, r7, r8, r9, r10, r11, r12, r13, r14)) :
  Calls Tryz.prog 124 #[.string a0, .int .i64 a1] w fun e w' => e = .returned (.tuple #[.agg #[.int .i64 r1, .int .i64 r2, .int .i64 r3, .string r4, .bool r5, .int .i64 r6, .int .i64 r7, .int .i64 r8, .bool r9, .bool r10, .string r11, .int .i64 r12], .int .i64 r13, .int .i64 r14]) ∧ Below w.heap.size w w' := by
 have hu127 := Tryz.underlying127
 have HB := Aside0.mk (Below.refl w.heap.size w)
 have H : (foolscapref07_sign.l0 k a0 a1 (([(⟨#[60, 62]⟩ : ByteArray), (⟨#[60, 61]⟩ : ByteArray), (⟨#[62, 61]⟩ : ByteArray), (⟨#[43]⟩ : ByteArray), (⟨#[45]⟩ : ByteArray), (⟨#[42]⟩ : ByteArray), (⟨#[47]⟩ : ByteArray), (⟨#[38]⟩ : ByteArray), (⟨#[61]⟩ : ByteArray), (⟨#[60]⟩ : ByteArray), (⟨#[62]⟩ : ByteArray), (⟨#[40]⟩ : ByteArray), (⟨#[41]⟩ : ByteArray), (⟨#[44]⟩ : ByteArray), (⟨#[58]⟩ : ByteArray)] : List ByteArray)) 0) = some (r1, r2, r3, r4, r5, r6, r7, r8, r9, r10, r11, r12, r13, r14) := h
 clear h
 obtain ⟨y230, hy230⟩ : ∃ y_ : List ByteArray, y_ = (([(⟨#[60, 62]⟩ : ByteArray), (⟨#[60, 61]⟩ : ByteArray), (⟨#[62, 61]⟩ : ByteArray), (⟨#[43]⟩ : ByteArray), (⟨#[45]⟩ : ByteArray), (⟨#[42]⟩ : ByteArray), (⟨#[47]⟩ : ByteArray), (⟨#[38]⟩ : ByteArray), (⟨#[61]⟩ : ByteArray), (⟨#[60]⟩ : ByteArray), (⟨#[62]⟩ : ByteArray), (⟨#[40]⟩ : ByteArray), (⟨#[41]⟩ : ByteArray), (⟨#[44]⟩ : ByteArray), (⟨#[58]⟩ : ByteArray)] : List ByteArray)) := ⟨_, rfl⟩
 replace H : (foolscapref07_sign.l0 k a0 a1 y230 0) = some (r1, r2, r3, r4, r5, r6, r7, r8, r9, r10, r11, r12, r13, r14) := by first | (rw [hy230]; with_reducible exact H) | (have H2_ := (Option.bind_some _ _).symm.trans H; rw [hy230]; with_reducible exact H2_) | (have H2_ := (Option.bind_some _ _).symm.trans H; with_reducible exact H2_) | with_reducible exact H | (rw [hy230]; exact H) | exact H
 have Ny230 := Aside0.mk hy230
 clear hy230
 have H' := Aside0.mk H
 clear H
 go_enter Tryz.func124, Tryz.ntmps124
 go_wp2_with (first | ((with_reducible refine gate_dst (N := 4) rfl ?_); (try (refine gate_guard (by rfl) ?_; dsimp only)); refine boxE 4 127 (#[.int .i64 0, .int .i64 0, .int .i64 0, .string (⟨#[]⟩ : ByteArray), .bool false, .int .i64 0, .int .i64 0, .int .i64 0, .bool false, .bool false, .string (⟨#[]⟩ : ByteArray), .int .i64 0]) ?_; intro gb229 hg w3 hbox hb; have n0_ := Aside0.mk (below_step (hbA) hb); have n1_ := Aside0.mk (hbox); have n2_ := Aside0.mk ((by rw [hg]; exact (below_size (hbA)) : w.heap.size ≤ gb229)); have n3_ := n2_; clear HB; have HB := n0_; have BK229 := n1_; have GW229 := n2_; have GE229 := n3_; clear n0_ n1_ n2_ n3_; clear hb hbox hg) | ((with_reducible refine gate_dst (N := 9) rfl ?_); (try (refine gate_guard (by rfl) ?_; dsimp only)); refine Kd.R_lit Kd.string _ 9 ?hg (N := 9) ?hd (xs := ([(⟨#[60, 62]⟩ : ByteArray), (⟨#[60, 61]⟩ : ByteArray), (⟨#[62, 61]⟩ : ByteArray), (⟨#[43]⟩ : ByteArray), (⟨#[45]⟩ : ByteArray), (⟨#[42]⟩ : ByteArray), (⟨#[47]⟩ : ByteArray), (⟨#[38]⟩ : ByteArray), (⟨#[61]⟩ : ByteArray), (⟨#[60]⟩ : ByteArray), (⟨#[62]⟩ : ByteArray), (⟨#[40]⟩ : ByteArray), (⟨#[41]⟩ : ByteArray), (⟨#[44]⟩ : ByteArray), (⟨#[58]⟩ : ByteArray)] : List ByteArray)) (inner := [.string (⟨#[60, 62]⟩ : ByteArray), .string (⟨#[60, 61]⟩ : ByteArray), .string (⟨#[62, 61]⟩ : ByteArray), .string (⟨#[43]⟩ : ByteArray), .string (⟨#[45]⟩ : ByteArray), .string (⟨#[42]⟩ : ByteArray), .string (⟨#[47]⟩ : ByteArray), .string (⟨#[38]⟩ : ByteArray), .string (⟨#[61]⟩ : ByteArray), .string (⟨#[60]⟩ : ByteArray), .string (⟨#[62]⟩ : ByteArray), .string (⟨#[40]⟩ : ByteArray), .string (⟨#[41]⟩ : ByteArray), .string (⟨#[44]⟩ : ByteArray), .string (⟨#[58]⟩ : ByteArray)]) (ok := fun _ => True) (okp := fun _ => True) ?hr ?hp (fun _ hk => hk) trivial (Below.refl _ _) (Nat.le_refl _) (by simp) ?_; (case hd => rfl); (case hg => rfl); (case hr => first | (go_simp; done) | (go_simp; rfl)); (case hp => exact (Reps.one (show Kd.M Kd.string _ _ _ (⟨#[60, 62]⟩ : ByteArray) [.string (⟨#[60, 62]⟩ : ByteArray)] from rfl) (Reps.one (show Kd.M Kd.string _ _ _ (⟨#[60, 61]⟩ : ByteArray) [.string (⟨#[60, 61]⟩ : ByteArray)] from rfl) (Reps.one (show Kd.M Kd.string _ _ _ (⟨#[62, 61]⟩ : ByteArray) [.string (⟨#[62, 61]⟩ : ByteArray)] from rfl) (Reps.one (show Kd.M Kd.string _ _ _ (⟨#[43]⟩ : ByteArray) [.string (⟨#[43]⟩ : ByteArray)] from rfl) (Reps.one (show Kd.M Kd.string _ _ _ (⟨#[45]⟩ : ByteArray) [.string (⟨#[45]⟩ : ByteArray)] from rfl) (Reps.one (show Kd.M Kd.string _ _ _ (⟨#[42]⟩ : ByteArray) [.string (⟨#[42]⟩ : ByteArray)] from rfl) (Reps.one (show Kd.M Kd.string _ _ _ (⟨#[47]⟩ : ByteArray) [.string (⟨#[47]⟩ : ByteArray)] from rfl) (Reps.one (show Kd.M Kd.string _ _ _ (⟨#[38]⟩ : ByteArray) [.string (⟨#[38]⟩ : ByteArray)] from rfl) (Reps.one (show Kd.M Kd.string _ _ _ (⟨#[61]⟩ : ByteArray) [.string (⟨#[61]⟩ : ByteArray)] from rfl) (Reps.one (show Kd.M Kd.string _ _ _ (⟨#[60]⟩ : ByteArray) [.string (⟨#[60]⟩ : ByteArray)] from rfl) (Reps.one (show Kd.M Kd.string _ _ _ (⟨#[62]⟩ : ByteArray) [.string (⟨#[62]⟩ : ByteArray)] from rfl) (Reps.one (show Kd.M Kd.string _ _ _ (⟨#[40]⟩ : ByteArray) [.string (⟨#[40]⟩ : ByteArray)] from rfl) (Reps.one (show Kd.M Kd.string _ _ _ (⟨#[41]⟩ : ByteArray) [.string (⟨#[41]⟩ : ByteArray)] from rfl) (Reps.one (show Kd.M Kd.string _ _ _ (⟨#[44]⟩ : ByteArray) [.string (⟨#[44]⟩ : ByteArray)] from rfl) (Reps.one (show Kd.M Kd.string _ _ _ (⟨#[58]⟩ : ByteArray) [.string (⟨#[58]⟩ : ByteArray)] from rfl) (Reps.none _ _))))))))))))))))); intro v231 w4 ho5 hb hg_ hnew_; clear hg_ hnew_; (first | rw [← Ny230.out] at ho5 | (simp only [Int.reduceToNat] at ho5; rw [← Ny230.out] at ho5)); have n0_ := Aside0.mk (Kd.R_lower ho5 (below_size (hbA))); have n1_ := Aside0.mk (blk_below (g := gb229) (o := .cells #[.int .i64 0, .int .i64 0, .int .i64 0, .string (⟨#[]⟩ : ByteArray), .bool false, .int .i64 0, .int .i64 0, .int .i64 0, .bool false, .bool false, .string (⟨#[]⟩ : ByteArray), .int .i64 0] 127 (0, 0)) (have bk_ := BK229.out; bkA) hb); have n2_ := Aside0.mk (below_step (hbA) hb); clear BK229; clear HB; have HO232 := n0_; have BK229 := n1_; have HB := n2_; clear n0_ n1_ n2_; clear hb ho5))
 go_loopg [8] k (fun kq v8 w' => ∃ (x8_1 : Int) (x230000_1 : Int) (x230001_1 : Int) (x230002_1 : Int) (x230003_1 : ByteArray) (x230004_1 : Bool) (x230005_1 : Int) (x230006_1 : Int) (x230007_1 : Int) (x230008_1 : Bool) (x230009_1 : Bool) (x230010_1 : ByteArray) (x230011_1 : Int), v8 = .int .i64 x8_1 ∧ Aside0 (foolscapref07_sign.l0 kq a0 a1 y230 x8_1 = some (r1, r2, r3, r4, r5, r6, r7, r8, r9, r10, r11, r12, r13, r14)) ∧ Aside0 (kq ≤ k) ∧ Aside0 (Kd.R Kd.string 9 w' w.heap.size (fun _ => True) v231 y230) ∧ Aside0 (w'.heap[gb229]? = some (.cells #[.int .i64 x230000_1, .int .i64 x230001_1, .int .i64 x230002_1, .string x230003_1, .bool x230004_1, .int .i64 x230005_1, .int .i64 x230006_1, .int .i64 x230007_1, .bool x230008_1, .bool x230009_1, .string x230010_1, .int .i64 x230011_1] 127 (0, 0))) ∧ Aside0 (Below w.heap.size w w'))
 case atStart => exact ⟨(0), (0), (0), (0), ((⟨#[]⟩ : ByteArray)), (false), (0), (0), (0), (false), (false), ((⟨#[]⟩ : ByteArray)), (0), (rflS), H', ⟨Nat.le_refl _⟩, ⟨by (with_reducible repeat (first | apply Kd.R_alloc | apply Kd.R_drewN | apply Kd.R_drew)); exact HO232.out⟩, ⟨have bk_ := BK229.out; bkA⟩, ⟨hbA⟩⟩
 case round =>
  clear H'
  try clear c1
  try clear p2
  obtain ⟨x8_1, x230000_1, x230001_1, x230002_1, x230003_1, x230004_1, x230005_1, x230006_1, x230007_1, x230008_1, x230009_1, x230010_1, x230011_1, rfl, HA, HK1, HO_7, BK229, HB⟩ := hrel
  cases gk with
  | zero => exact absurd HA.out (by simp [foolscapref07_sign.l0])
  | succ k1 =>
   have H := HA.out
   clear HA
   simp only [foolscapref07_sign.l0] at H
   by_cases c6 : x8_1 < (y230.length : Int)
   ·rw [if_pos c6] at H
    have c6b0 : decide (x8_1 < (y230.length : Int)) = true := decide_eq_true c6
    clear c6
    by_cases c7 : 0 ≤ x8_1
    ·rw [if_pos c7] at H
     have c7b0 : decide (0 ≤ x8_1) = true := decide_eq_true c7
     clear c7
     by_cases c8 : (wrap64 ((a0.size : Int) - a1)) ≥ ((rdOf ByteArray.empty y230 x8_1).size : Int)
     ·rw [if_pos c8] at H
      have c8b0 : decide (((rdOf ByteArray.empty y230 x8_1).size : Int) ≤ (wrap64 ((a0.size : Int) - a1))) = true := decide_eq_true c8
      clear c8
      by_cases c9 : 0 ≤ a1
      ·rw [if_pos c9] at H
       have c9b0 := eq_true c9
       have c9b1 : decide (0 ≤ a1) = true := decide_eq_true c9
       clear c9
       by_cases c10 : a1 ≤ (wrap64 (a1 + ((rdOf ByteArray.empty y230 x8_1).size : Int)))
       ·rw [if_pos c10] at H
        have c10b0 := eq_true c10
        have c10b1 : decide (a1 ≤ (wrap64 (a1 + ((rdOf ByteArray.empty y230 x8_1).size : Int)))) = true := decide_eq_true c10
        by_cases c11 : (wrap64 (a1 + ((rdOf ByteArray.empty y230 x8_1).size : Int))) ≤ (a0.size : Int)
        ·rw [if_pos c11] at H
         have c11b0 := eq_true c11
         have c11b1 : decide ((wrap64 (a1 + ((rdOf ByteArray.empty y230 x8_1).size : Int))) ≤ (a0.size : Int)) = true := decide_eq_true c11
         by_cases c12 : (a0.extract (a1 : Int).toNat ((wrap64 (a1 + ((rdOf ByteArray.empty y230 x8_1).size : Int))) : Int).toNat).toList = (rdOf ByteArray.empty y230 x8_1).toList
         ·rw [if_pos c12] at H
          have c12b0 : ((a0.extract (a1 : Int).toNat ((wrap64 (a1 + ((rdOf ByteArray.empty y230 x8_1).size : Int))) : Int).toNat).toList == (rdOf ByteArray.empty y230 x8_1).toList) = true := beq_iff_eq.mpr c12
          have c12b1 : ((a0.extract (a1 : Int).toNat ((wrap64 (a1 + ((rdOf ByteArray.empty y230 x8_1).size : Int))) : Int).toNat).toList != (rdOf ByteArray.empty y230 x8_1).toList) = false := bne_eq_false_iff_eq.mpr c12
          clear c12
          simp only [Option.some.injEq, Prod.mk.injEq] at H
          obtain ⟨rfl, rfl, rfl, rfl, rfl, rfl, rfl, rfl, rfl, rfl, rfl, rfl, rfl, rfl⟩ := H
          obtain ⟨Ao13, co13, eo13⟩ := Kd.R_slice HO_7.out
          subst eo13
          try go_wp2
          have n0_ := Aside0.mk (Kd.R_drew HO_7.out)
          have n1_ := Aside0.mk (bqY BK229.out)
          have n2_ := Aside0.mk (bqD HB.out)
          clear HO_7
          clear BK229
          clear HB
          have HO_7 := n0_
          have BK229 := n1_
          have HB := n2_
          clear n0_ n1_ n2_
          have p233 : 0 ≤ (x8_1 : Int) := of_decide_eq_true kA
          have q233 : x8_1 < (y230.length : Int) := of_decide_eq_true kA
          obtain ⟨ad233, e233, hx233_0⟩ := Kd.at_string (Kd.R_reads' HO_7.out).2.2 x8_1 p233 q233
          cases e233
          replace p233 := eq_true p233
          replace q233 := eq_true q233
          have p234 : 0 ≤ (x8_1 : Int) := of_decide_eq_true kA
          have q234 : x8_1 < (y230.length : Int) := of_decide_eq_true kA
          obtain ⟨ad234, e234, hx234_0⟩ := Kd.at_string (Kd.R_reads' HO_7.out).2.2 x8_1 p234 q234
          obtain rfl : ad233 = ad234 := (by injection e234)
          replace p234 := eq_true p234
          replace q234 := eq_true q234
          have p235 : 0 ≤ (x8_1 : Int) := of_decide_eq_true kA
          have q235 : x8_1 < (y230.length : Int) := of_decide_eq_true kA
          obtain ⟨ad235, e235, hx235_0⟩ := Kd.at_string (Kd.R_reads' HO_7.out).2.2 x8_1 p235 q235
          obtain rfl : ad233 = ad235 := (by injection e235)
          replace p235 := eq_true p235
          replace q235 := eq_true q235
          refine start_ (n := 27) (S := fun w' => w'.cell? (ad233.add (x8_1).toNat) = some (.string (rdOf ByteArray.empty y230 x8_1)) ∧ w'.cell? (ad233.add (x8_1).toNat) = some (.string (rdOf ByteArray.empty y230 x8_1)) ∧ w'.cell? (ad233.add (x8_1).toNat) = some (.string (rdOf ByteArray.empty y230 x8_1))) (ds := []) (Array.replicate 27 false) (by kernel_rfl) rfl rfl ⟨hx233_0, hx234_0, hx235_0⟩ (fun hHeld => ?_); refine with_tabW foolscapref07_sign.tab5 foolscapref07_sign.bits5 (fun HT_ HW_ => ?_)
          generalize wr.drew = w14 at HO_7 BK229 HB hx233_0 hx234_0 hx235_0 hHeld ⊢
          refine pq 0 16 HT_ ?_; refine pq 1 17 HT_ ?_; refine pq 2 18 HT_ ?_; refine pq 3 19 HT_ ?_; refine pq 4 20 HT_ ?_; refine pq 5 21 HT_ ?_; refine pq 6 22 HT_ ?_; refine tqc 7 23 HT_ HW_ hHeld ?_; refine pq 8 24 HT_ ?_; refine pq 9 25 HT_ ?_; refine pq 10 26 HT_ ?_; refine pq 11 27 HT_ ?_; refine pq 12 28 HT_ ?_; refine pq 13 29 HT_ ?_; refine pq 14 30 HT_ ?_; refine pq 15 31 HT_ ?_; refine pq 16 32 HT_ ?_; refine pq 21 37 HT_ ?_; refine pq 22 38 HT_ ?_; refine pq 23 39 HT_ ?_; refine tqc 17 33 HT_ HW_ hHeld ?_; refine pq 18 34 HT_ ?_; refine pq 19 35 HT_ ?_; refine pq 20 36 HT_ ?_; refine tqc 24 40 HT_ HW_ hHeld ?_; refine pq 25 41 HT_ ?_; refine pq 26 42 HT_ ?_
          refine done_ (done_of HT_.out (by kernel_rfl)) ?_
          try go_wp2
          have n0_ := Aside0.mk (Kd.R_drew HO_7.out)
          have n1_ := Aside0.mk (bqY BK229.out)
          have n2_ := Aside0.mk (bqD HB.out)
          clear HO_7
          clear BK229
          clear HB
          have HO_7 := n0_
          have BK229 := n1_
          have HB := n2_
          clear n0_ n1_ n2_
          have p236 : 0 ≤ (x8_1 : Int) := of_decide_eq_true kA
          have q236 : x8_1 < (y230.length : Int) := of_decide_eq_true kA
          obtain ⟨ad236, e236, hx236_0⟩ := Kd.at_string (Kd.R_reads' HO_7.out).2.2 x8_1 p236 q236
          obtain rfl : ad233 = ad236 := (by injection e236)
          replace p236 := eq_true p236
          replace q236 := eq_true q236
          have p237 : 0 ≤ (x8_1 : Int) := of_decide_eq_true kA
          have q237 : x8_1 < (y230.length : Int) := of_decide_eq_true kA
          obtain ⟨ad237, e237, hx237_0⟩ := Kd.at_string (Kd.R_reads' HO_7.out).2.2 x8_1 p237 q237
          obtain rfl : ad233 = ad237 := (by injection e237)
          replace p237 := eq_true p237
          replace q237 := eq_true q237
          refine start_ (n := 16) (S := fun w' => w'.cell? (ad233.add (x8_1).toNat) = some (.string (rdOf ByteArray.empty y230 x8_1)) ∧ w'.cell? (ad233.add (x8_1).toNat) = some (.string (rdOf ByteArray.empty y230 x8_1))) (ds := []) (Array.replicate 16 false) (by kernel_rfl) rfl rfl ⟨hx236_0, hx237_0⟩ (fun hHeld => ?_); refine with_tabW foolscapref07_sign.tab6 foolscapref07_sign.bits6 (fun HT_ HW_ => ?_)
          generalize w14.drew = w15 at HO_7 BK229 HB hx236_0 hx237_0 hHeld ⊢
          refine pq 0 43 HT_ ?_; refine pq 1 44 HT_ ?_; refine pq 2 45 HT_ ?_; refine pq 4 47 HT_ ?_; refine pq 6 49 HT_ ?_; refine pq 7 50 HT_ ?_; refine pq 8 51 HT_ ?_; refine pq 9 52 HT_ ?_; refine tqb 3 46 HT_ HW_ hHeld ?_; refine pq 5 48 HT_ ?_; refine tqb 10 53 HT_ HW_ hHeld ?_; refine pq 11 54 HT_ ?_; refine pq 12 55 HT_ ?_
          refine one_ (i := 13) (N := none) #[true, true, true, true, true, true, true, true, true, true, true, true, true, true, false, false] rfl rfl (one_of HT_.out (by kernel_rfl)) (by decide) (fun K hK => ?_)
          have hs16 : w15.cell? ⟨gb229, 0, none⟩ = some (.int .i64 x230000_1) := (blk_cell BK229.out 0).trans rfl
          have hfs16 := blk_frozen BK229.out 0
          have hs17 : w15.cell? ⟨gb229, 1, none⟩ = some (.int .i64 x230001_1) := (blk_cell BK229.out 1).trans rfl
          have hfs17 := blk_frozen BK229.out 1
          have hs18 : w15.cell? ⟨gb229, 2, none⟩ = some (.int .i64 x230002_1) := (blk_cell BK229.out 2).trans rfl
          have hfs18 := blk_frozen BK229.out 2
          have hs19 : w15.cell? ⟨gb229, 3, none⟩ = some (.string x230003_1) := (blk_cell BK229.out 3).trans rfl
          have hfs19 := blk_frozen BK229.out 3
          have hs20 : w15.cell? ⟨gb229, 4, none⟩ = some (.bool x230004_1) := (blk_cell BK229.out 4).trans rfl
          have hfs20 := blk_frozen BK229.out 4
          have hs21 : w15.cell? ⟨gb229, 5, none⟩ = some (.int .i64 x230005_1) := (blk_cell BK229.out 5).trans rfl
          have hfs21 := blk_frozen BK229.out 5
          have hs22 : w15.cell? ⟨gb229, 6, none⟩ = some (.int .i64 x230006_1) := (blk_cell BK229.out 6).trans rfl
          have hfs22 := blk_frozen BK229.out 6
          have hs23 : w15.cell? ⟨gb229, 7, none⟩ = some (.int .i64 x230007_1) := (blk_cell BK229.out 7).trans rfl
          have hfs23 := blk_frozen BK229.out 7
          have hs24 : w15.cell? ⟨gb229, 8, none⟩ = some (.bool x230008_1) := (blk_cell BK229.out 8).trans rfl
          have hfs24 := blk_frozen BK229.out 8
          have hs25 : w15.cell? ⟨gb229, 9, none⟩ = some (.bool x230009_1) := (blk_cell BK229.out 9).trans rfl
          have hfs25 := blk_frozen BK229.out 9
          have hs26 : w15.cell? ⟨gb229, 10, none⟩ = some (.string x230010_1) := (blk_cell BK229.out 10).trans rfl
          have hfs26 := blk_frozen BK229.out 10
          have hs27 : w15.cell? ⟨gb229, 11, none⟩ = some (.int .i64 x230011_1) := (blk_cell BK229.out 11).trans rfl
          have hfs27 := blk_frozen BK229.out 11
          refine skip_ (w1 := ?_) (by rfl) rfl ?_ ?_
          rotate_left
          ·go_simp
           rfl
          refine hK.out _ _ ⟨((far12 (g := gb229) (by first | exact Kd.own_blk (Kd.R_ne HO_7.out BK229.out (by decide)) | (rw [add_block]; exact Kd.own_blk (Kd.R_ne HO_7.out BK229.out (by decide))) | (show (Addr.add _ _).block ≠ _; rw [add_block]; exact Kd.own_blk (Kd.R_ne HO_7.out BK229.out (by decide))) | (dsimp only; exact Kd.own_blk (Kd.R_ne HO_7.out BK229.out (by decide))))).trans (hHeld.1)), ((far12 (g := gb229) (by first | exact Kd.own_blk (Kd.R_ne HO_7.out BK229.out (by decide)) | (rw [add_block]; exact Kd.own_blk (Kd.R_ne HO_7.out BK229.out (by decide))) | (show (Addr.add _ _).block ≠ _; rw [add_block]; exact Kd.own_blk (Kd.R_ne HO_7.out BK229.out (by decide))) | (dsimp only; exact Kd.own_blk (Kd.R_ne HO_7.out BK229.out (by decide))))).trans (hHeld.2))⟩ (fun hHeld => ?_)
          clear hK K
          refine pq 14 5 HT_ ?_; refine pq 15 6 HT_ ?_
          refine done_ (done_of HT_.out (by kernel_rfl)) ?_
          try go_wp2
          refine bodyPost_ret (results_ctt rfl _ _ gb229 127 #[.int .i64 4, .int .i64 0, .int .i64 0, .string (⟨#[]⟩ : ByteArray), .bool false, .int .i64 0, .int .i64 0, .int .i64 0, .bool false, .bool false, .string (rdOf ByteArray.empty y230 x8_1), .int .i64 a1] (0, 0) _ rfl (by (with_reducible repeat (first | refine bqZ ?_ _ | refine bqY ?_ | refine bqX ?_ _)); refine put12 (.int .i64 x230000_1) (.int .i64 x230001_1) (.int .i64 x230002_1) (.string x230003_1) (.bool x230004_1) (.int .i64 x230005_1) (.int .i64 x230006_1) (.int .i64 x230007_1) (.bool x230008_1) (.bool x230009_1) (.string x230010_1) (.int .i64 x230011_1) ?_; exact (have bk_ := BK229.out; bkA)) Tryz.underlying127 rfl (by kernel_rfl)) rfl ?_
          exact ⟨rflE, hbA⟩
         ·rw [if_neg c12] at H
          have c12b0 : ((a0.extract (a1 : Int).toNat ((wrap64 (a1 + ((rdOf ByteArray.empty y230 x8_1).size : Int))) : Int).toNat).toList == (rdOf ByteArray.empty y230 x8_1).toList) = false := beq_eq_false_iff_ne.mpr c12
          have c12b1 : ((a0.extract (a1 : Int).toNat ((wrap64 (a1 + ((rdOf ByteArray.empty y230 x8_1).size : Int))) : Int).toNat).toList != (rdOf ByteArray.empty y230 x8_1).toList) = true := bne_iff_ne.mpr c12
          have H' := Aside0.mk H
          clear H
          obtain ⟨Ao28, co28, eo28⟩ := Kd.R_slice HO_7.out
          subst eo28
          try go_wp2
          have n0_ := Aside0.mk (Kd.R_drew HO_7.out)
          have n1_ := Aside0.mk (bqY BK229.out)
          have n2_ := Aside0.mk (bqD HB.out)
          clear HO_7
          clear BK229
          clear HB
          have HO_7 := n0_
          have BK229 := n1_
          have HB := n2_
          clear n0_ n1_ n2_
          have p233 : 0 ≤ (x8_1 : Int) := of_decide_eq_true kA
          have q233 : x8_1 < (y230.length : Int) := of_decide_eq_true kA
          obtain ⟨ad233, e233, hx233_0⟩ := Kd.at_string (Kd.R_reads' HO_7.out).2.2 x8_1 p233 q233
          cases e233
          replace p233 := eq_true p233
          replace q233 := eq_true q233
          have p234 : 0 ≤ (x8_1 : Int) := of_decide_eq_true kA
          have q234 : x8_1 < (y230.length : Int) := of_decide_eq_true kA
          obtain ⟨ad234, e234, hx234_0⟩ := Kd.at_string (Kd.R_reads' HO_7.out).2.2 x8_1 p234 q234
          obtain rfl : ad233 = ad234 := (by injection e234)
          replace p234 := eq_true p234
          replace q234 := eq_true q234
          have p235 : 0 ≤ (x8_1 : Int) := of_decide_eq_true kA
          have q235 : x8_1 < (y230.length : Int) := of_decide_eq_true kA
          obtain ⟨ad235, e235, hx235_0⟩ := Kd.at_string (Kd.R_reads' HO_7.out).2.2 x8_1 p235 q235
          obtain rfl : ad233 = ad235 := (by injection e235)
          replace p235 := eq_true p235
          replace q235 := eq_true q235
          refine start_ (n := 27) (S := fun w' => w'.cell? (ad233.add (x8_1).toNat) = some (.string (rdOf ByteArray.empty y230 x8_1)) ∧ w'.cell? (ad233.add (x8_1).toNat) = some (.string (rdOf ByteArray.empty y230 x8_1)) ∧ w'.cell? (ad233.add (x8_1).toNat) = some (.string (rdOf ByteArray.empty y230 x8_1))) (ds := []) (Array.replicate 27 false) (by kernel_rfl) rfl rfl ⟨hx233_0, hx234_0, hx235_0⟩ (fun hHeld => ?_); refine with_tabW foolscapref07_sign.tab5 foolscapref07_sign.bits5 (fun HT_ HW_ => ?_)
          generalize wr.drew = w29 at HO_7 BK229 HB hx233_0 hx234_0 hx235_0 hHeld ⊢
          refine pq 0 16 HT_ ?_; refine pq 1 17 HT_ ?_; refine pq 2 18 HT_ ?_; refine pq 3 19 HT_ ?_; refine pq 4 20 HT_ ?_; refine pq 5 21 HT_ ?_; refine pq 6 22 HT_ ?_; refine tqc 7 23 HT_ HW_ hHeld ?_; refine pq 8 24 HT_ ?_; refine pq 9 25 HT_ ?_; refine pq 10 26 HT_ ?_; refine pq 11 27 HT_ ?_; refine pq 12 28 HT_ ?_; refine pq 13 29 HT_ ?_; refine pq 14 30 HT_ ?_; refine pq 15 31 HT_ ?_; refine pq 16 32 HT_ ?_; refine pq 21 37 HT_ ?_; refine pq 22 38 HT_ ?_; refine pq 23 39 HT_ ?_; refine tqc 17 33 HT_ HW_ hHeld ?_; refine pq 18 34 HT_ ?_; refine pq 19 35 HT_ ?_; refine pq 20 36 HT_ ?_; refine tqc 24 40 HT_ HW_ hHeld ?_; refine pq 25 41 HT_ ?_; refine pq 26 42 HT_ ?_
          refine done_ (done_of HT_.out (by kernel_rfl)) ?_
          try go_wp2
          go_roundg k1
          case measure => have := HK1.out; omega
          case rel => exact ⟨(wrap64 (x8_1 + 1)), (x230000_1), (x230001_1), (x230002_1), (x230003_1), (x230004_1), (x230005_1), (x230006_1), (x230007_1), (x230008_1), (x230009_1), (x230010_1), (x230011_1), (rflS), H', ⟨by have := HK1.out; omega⟩, ⟨by (with_reducible repeat (first | apply Kd.R_alloc | apply Kd.R_drewN | apply Kd.R_drew)); exact HO_7.out⟩, ⟨have bk_ := BK229.out; bkA⟩, ⟨hbA⟩⟩
        ·rw [if_neg c11] at H
         exact absurd H (by simp)
       ·rw [if_neg c10] at H
        exact absurd H (by simp)
      ·rw [if_neg c9] at H
       exact absurd H (by simp)
     ·rw [if_neg c8] at H
      have c8b0 : decide (((rdOf ByteArray.empty y230 x8_1).size : Int) ≤ (wrap64 ((a0.size : Int) - a1))) = false := decide_eq_false c8
      clear c8
      have H' := Aside0.mk H
      clear H
      obtain ⟨Ao30, co30, eo30⟩ := Kd.R_slice HO_7.out
      subst eo30
      try go_wp2
      have n0_ := Aside0.mk (Kd.R_drew HO_7.out)
      have n1_ := Aside0.mk (bqY BK229.out)
      have n2_ := Aside0.mk (bqD HB.out)
      clear HO_7
      clear BK229
      clear HB
      have HO_7 := n0_
      have BK229 := n1_
      have HB := n2_
      clear n0_ n1_ n2_
      have p233 : 0 ≤ (x8_1 : Int) := of_decide_eq_true kA
      have q233 : x8_1 < (y230.length : Int) := of_decide_eq_true kA
      obtain ⟨ad233, e233, hx233_0⟩ := Kd.at_string (Kd.R_reads' HO_7.out).2.2 x8_1 p233 q233
      cases e233
      replace p233 := eq_true p233
      replace q233 := eq_true q233
      refine start_ (n := 27) (S := fun w' => w'.cell? (ad233.add (x8_1).toNat) = some (.string (rdOf ByteArray.empty y230 x8_1))) (ds := []) (Array.replicate 27 false) (by kernel_rfl) rfl rfl (hx233_0) (fun hHeld => ?_); refine with_tabW foolscapref07_sign.tab5 foolscapref07_sign.bits5 (fun HT_ HW_ => ?_)
      generalize wr.drew = w31 at HO_7 BK229 HB hx233_0 hHeld ⊢
      refine pq 0 16 HT_ ?_; refine pq 1 17 HT_ ?_; refine pq 2 18 HT_ ?_; refine pq 3 19 HT_ ?_; refine pq 4 20 HT_ ?_; refine pq 5 21 HT_ ?_; refine pq 6 22 HT_ ?_; refine tqa 7 23 HT_ HW_ hHeld ?_; refine pq 8 24 HT_ ?_; refine pq 9 25 HT_ ?_; refine pq 10 26 HT_ ?_; refine uq 11 27 HT_ ?_; refine uq 12 28 HT_ ?_; refine uq 13 29 HT_ ?_; refine uq 14 30 HT_ ?_; refine uq 15 31 HT_ ?_; refine uq 16 32 HT_ ?_; refine uq 17 33 HT_ ?_; refine uq 18 34 HT_ ?_; refine uq 19 35 HT_ ?_; refine uq 20 36 HT_ ?_; refine uq 21 37 HT_ ?_; refine uq 22 38 HT_ ?_; refine uq 23 39 HT_ ?_; refine uq 24 40 HT_ ?_; refine uq 25 41 HT_ ?_; refine pq 26 42 HT_ ?_
      refine done_ (done_of HT_.out (by kernel_rfl)) ?_
      try go_wp2
      go_roundg k1
      case measure => have := HK1.out; omega
      case rel => exact ⟨(wrap64 (x8_1 + 1)), (x230000_1), (x230001_1), (x230002_1), (x230003_1), (x230004_1), (x230005_1), (x230006_1), (x230007_1), (x230008_1), (x230009_1), (x230010_1), (x230011_1), (rflS), H', ⟨by have := HK1.out; omega⟩, ⟨by (with_reducible repeat (first | apply Kd.R_alloc | apply Kd.R_drewN | apply Kd.R_drew)); exact HO_7.out⟩, ⟨have bk_ := BK229.out; bkA⟩, ⟨hbA⟩⟩
    ·rw [if_neg c7] at H
     exact absurd H (by simp)
   ·rw [if_neg c6] at H
    have c6b0 : decide (x8_1 < (y230.length : Int)) = false := decide_eq_false c6
    clear c6
    simp only [Option.some.injEq, Prod.mk.injEq] at H
    obtain ⟨rfl, rfl, rfl, rfl, rfl, rfl, rfl, rfl, rfl, rfl, rfl, rfl, rfl, rfl⟩ := H
    obtain ⟨Ao32, co32, eo32⟩ := Kd.R_slice HO_7.out
    subst eo32
    obtain ⟨hcz33_0, hcz33_1, hcz33_2, hcz33_3, hcz33_4, hcz33_5, hcz33_6, hcz33_7, hcz33_8, hcz33_9, hcz33_10, hcz33_11⟩ := cellsA12 BK229.out
    obtain ⟨hfz33_0, hfz33_1, hfz33_2, hfz33_3, hfz33_4, hfz33_5, hfz33_6, hfz33_7, hfz33_8, hfz33_9, hfz33_10, hfz33_11⟩ := frozA12 BK229.out
    go_wp2
    refine bodyPost_ret (results_ctt rfl _ _ gb229 127 #[.int .i64 0, .int .i64 0, .int .i64 0, .string (⟨#[]⟩ : ByteArray), .bool false, .int .i64 0, .int .i64 0, .int .i64 0, .bool false, .bool false, .string (⟨#[]⟩ : ByteArray), .int .i64 0] (0, 0) _ rfl (by (with_reducible repeat (first | refine bqZ ?_ _ | refine bqY ?_ | refine bqX ?_ _)); refine put12 (.int .i64 x230000_1) (.int .i64 x230001_1) (.int .i64 x230002_1) (.string x230003_1) (.bool x230004_1) (.int .i64 x230005_1) (.int .i64 x230006_1) (.int .i64 x230007_1) (.bool x230008_1) (.bool x230009_1) (.string x230010_1) (.int .i64 x230011_1) ?_; exact (have bk_ := BK229.out; bkA)) Tryz.underlying127 rfl (by kernel_rfl)) rfl ?_
    exact ⟨rflE, hbA⟩
end Go.Proofs.YthnldbclbfpojaaGreatDoor.Pr
end
