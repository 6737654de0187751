/-
  Lemmas for the law FAllFTable.
-/
import Derived.Test.YtopdjokncbpghaaGreatDoorSFAllFTable5
import Derived.Test.YtopdjokncbpghaaGreatDoorSFAllFTable7
import Derived.Test.YtopdjokncbpghaaGreatDoorSFAllFTable10
import Derived.Test.YtopdjokncbpghaaGreatDoorSFAllFTable11
set_option maxHeartbeats 8000000
set_option maxRecDepth 100000
set_option linter.unusedVariables false
set_option linter.unusedSimpArgs false
section
namespace Go.Proofs.YtopdjokncbpghaaGreatDoor.Pr
open Go.RowKit Go.Proofs.YtopdjokncbpghaaGreatDoorW.PrintWords Go.Proofs.YtopdjokncbpghaaGreatDoorW.PrintLast Go.Proofs.YtopdjokncbpghaaGreatDoorW.PrintMore
attribute [local go_sem] max2_int min2_int max_two min_two max_three min_three max_four min_four   -- for this text's walks alone
mutual
def foolscapref07_word.j0 : Nat → Int → ByteArray → Int → Bool → Option (Int × Int × Int × ByteArray × Bool × Int × Int × Int × Bool × Bool × ByteArray × Int × Int × Int)
 | 0, _, _, _, _ => none
 | k + 1, x1, x8, x9, x34 => if x34 = true then ((foolscapref07_Name.f k x8).bind fun t165 => (if t165 = true then ((foolscapref04_Fold.f x8).bind fun t166 => (some (3, 0, 0, (⟨#[]⟩ : ByteArray), false, 0, 0, 0, false, false, t166, x1, x9, 0))) else (some (0, 0, 0, (⟨#[]⟩ : ByteArray), false, 0, 0, 0, false, false, (⟨#[]⟩ : ByteArray), 0, 0, 5)))) else ((foolscapref04_Fold.f x8).bind fun t167 => (if t167.toList = ([84, 82, 85, 69] : List UInt8) then (foolscapref07_word.j1 k x1 x8 x9 t167 true) else (foolscapref07_word.j1 k x1 x8 x9 t167 (t167.toList == ([70, 65, 76, 83, 69] : List UInt8)))))
def foolscapref07_word.j1 : Nat → Int → ByteArray → Int → ByteArray → Bool → Option (Int × Int × Int × ByteArray × Bool × Int × Int × Int × Bool × Bool × ByteArray × Int × Int × Int)
 | 0, _, _, _, _, _ => none
 | k + 1, x1, x8, x9, x10, x51 => if x51 = true then (some (1, 3, 0, (⟨#[]⟩ : ByteArray), (x10.toList == ([84, 82, 85, 69] : List UInt8)), 0, 0, 0, false, false, (⟨#[]⟩ : ByteArray), x1, x9, 0)) else ((foolscapref05_Parse.f k x8).bind fun bt168 => (if bt168.2.2.2.2 = 0 then (some (2, 0, 0, (⟨#[]⟩ : ByteArray), false, 0, bt168.1, bt168.2.1, bt168.2.2.1, bt168.2.2.2.1, (⟨#[]⟩ : ByteArray), x1, x9, 0)) else (some (0, 0, 0, (⟨#[]⟩ : ByteArray), false, 0, 0, 0, false, false, (⟨#[]⟩ : ByteArray), 0, 0, bt168.2.2.2.2))))
end
def foolscapref07_word.f (k : Nat) (a0 : ByteArray) (a1 : Int) : Option (Int × Int × Int × ByteArray × Bool × Int × Int × Int × Bool × Bool × ByteArray × Int × Int × Int) := (foolscapref07_row.f k a0 a1 true).bind fun t164 => (if 0 ≤ a1 then (if a1 ≤ (wrap64 (a1 + t164)) then (if (wrap64 (a1 + t164)) ≤ (a0.size : Int) then (if (wrap64 (a1 + t164)) < (a0.size : Int) then (if 0 ≤ (wrap64 (a1 + t164)) then (foolscapref07_word.j0 k a1 (a0.extract (a1 : Int).toNat ((wrap64 (a1 + t164)) : Int).toNat) (wrap64 (a1 + t164)) ((bt a0 (wrap64 (a1 + t164))) == 40)) else (none)) else (foolscapref07_word.j0 k a1 (a0.extract (a1 : Int).toNat ((wrap64 (a1 + t164)) : Int).toNat) (wrap64 (a1 + t164)) false)) else (none)) else (none)) else (none))
theorem foolscapref07_word.calls (k : Nat) (a0 : ByteArray) (a1 : Int) (r1 : Int) (r2 : Int) (r3 : Int) (r4 : ByteArray) (r5 : Bool) (r6 : Int) (r7 : Int) (r8 : Int) (r9 : Bool) (r10 : Bool) (r11 : ByteArray) (r12 : Int) (r13 : Int) (r14 : Int) (w : World) (h : foolscapref07_word.f k a0 a1 = some (r1, r2, r3, r4, r5, r6, r7, r8, r9, r10, r11, r12, r13, r14)) :
  Calls Tryz.prog 115 #[.string a0, .int .i64 a1] w fun e w' => e = .returned (.tuple #[.agg #[.int .i64 r1, .int .i64 r2, .int .i64 r3, .string r4, .bool r5, .int .i64 r6, .int .i64 r7, .int .i64 r8, .bool r9, .bool r10, .string r11, .int .i64 r12], .int .i64 r13, .int .i64 r14]) ∧ Below w.heap.size w w' := by
 have hu120 := Tryz.underlying120
 have hu37 := Tryz.underlying37
 have hu41 := Tryz.underlying41
 have HB := Aside0.mk (Below.refl w.heap.size w)
 have H : ((foolscapref07_row.f k a0 a1 true).bind fun t164 => (if 0 ≤ a1 then (if a1 ≤ (wrap64 (a1 + t164)) then (if (wrap64 (a1 + t164)) ≤ (a0.size : Int) then (if (wrap64 (a1 + t164)) < (a0.size : Int) then (if 0 ≤ (wrap64 (a1 + t164)) then (foolscapref07_word.j0 k a1 (a0.extract (a1 : Int).toNat ((wrap64 (a1 + t164)) : Int).toNat) (wrap64 (a1 + t164)) ((bt a0 (wrap64 (a1 + t164))) == 40)) else (none)) else (foolscapref07_word.j0 k a1 (a0.extract (a1 : Int).toNat ((wrap64 (a1 + t164)) : Int).toNat) (wrap64 (a1 + t164)) false)) else (none)) else (none)) else (none))) = some (r1, r2, r3, r4, r5, r6, r7, r8, r9, r10, r11, r12, r13, r14) := h
 clear h
 replace H := Option.bind_eq_some_iff.mp H
 obtain ⟨t164, A30, H⟩ := H
 replace H : (if 0 ≤ a1 then (if a1 ≤ (wrap64 (a1 + t164)) then (if (wrap64 (a1 + t164)) ≤ (a0.size : Int) then (if (wrap64 (a1 + t164)) < (a0.size : Int) then (if 0 ≤ (wrap64 (a1 + t164)) then (foolscapref07_word.j0 k a1 (a0.extract (a1 : Int).toNat ((wrap64 (a1 + t164)) : Int).toNat) (wrap64 (a1 + t164)) ((bt a0 (wrap64 (a1 + t164))) == 40)) else (none)) else (foolscapref07_word.j0 k a1 (a0.extract (a1 : Int).toNat ((wrap64 (a1 + t164)) : Int).toNat) (wrap64 (a1 + t164)) false)) else (none)) else (none)) else (none)) = some (r1, r2, r3, r4, r5, r6, r7, r8, r9, r10, r11, r12, r13, r14) := H
 have A3 := Aside0.mk A30
 clear A30
 by_cases c4 : 0 ≤ a1
 ·rw [if_pos c4] at H
  have c4b0 := eq_true c4
  have c4b1 : decide (0 ≤ a1) = true := decide_eq_true c4
  clear c4
  by_cases c5 : a1 ≤ (wrap64 (a1 + t164))
  ·rw [if_pos c5] at H
   have c5b0 := eq_true c5
   have c5b1 : decide (a1 ≤ (wrap64 (a1 + t164))) = true := decide_eq_true c5
   by_cases c6 : (wrap64 (a1 + t164)) ≤ (a0.size : Int)
   ·rw [if_pos c6] at H
    have c6b0 := eq_true c6
    have c6b1 : decide ((wrap64 (a1 + t164)) ≤ (a0.size : Int)) = true := decide_eq_true c6
    have HC7 := Aside0.mk H
    clear H
    go_enter Tryz.func115, Tryz.ntmps115
    go_upto_region 3 with (first | ((with_reducible refine gate_dst (N := 4) rfl ?_); refine boxE 4 120 (#[.int .i64 0, .int .i64 0, .int .i64 0, .string (⟨#[]⟩ : ByteArray), .bool false, .int .i64 0, .int .i64 0, .int .i64 0, .bool false, .bool false, .string (⟨#[]⟩ : ByteArray), .int .i64 0]) ?_; intro gb163 hg w8 hbox hb; have n0_ := Aside0.mk (below_step (hbA) hb); have n1_ := Aside0.mk (hbox); have n2_ := Aside0.mk ((by rw [hg]; exact (below_size (hbA)) : w.heap.size ≤ gb163)); have n3_ := n2_; clear HB; have HB := n0_; have BK163 := n1_; have GW163 := n2_; have GE163 := n3_; clear n0_ n1_ n2_ n3_; clear hb hbox hg) | ((with_reducible refine gate_callee (f := 132) rfl ?_); refine goesL_ (some 15) rfl rfl Tryz.func132 (by kernel_rfl) rfl #[.string a0, .int .i64 a1, .bool true] rfl argA ?_; (with_reducible refine (foolscapref07_row.calls k a0 a1 true t164 _ A3.out).mono ?_); rintro e w' ⟨rfl, ⟨nd, rfl⟩⟩; refine ⟨_, rfl, ?_⟩))
    (try simp only [Act.put, List.setIfInBounds_toArray, List.set_cons_zero, List.set_cons_succ])
    go_cut [34] (fun v34 wc => ∃ (kq : Nat) (x34_6 : Bool), v34 = .bool x34_6 ∧ Aside0 (foolscapref07_word.j0 kq a1 (a0.extract (a1 : Int).toNat ((wrap64 (a1 + t164)) : Int).toNat) (wrap64 (a1 + t164)) x34_6 = some (r1, r2, r3, r4, r5, r6, r7, r8, r9, r10, r11, r12, r13, r14)) ∧ Aside0 (kq ≤ k) ∧ Aside0 (wc.heap[gb163]? = some (.cells #[.int .i64 0, .int .i64 0, .int .i64 0, .string (⟨#[]⟩ : ByteArray), .bool false, .int .i64 0, .int .i64 0, .int .i64 0, .bool false, .bool false, .string (⟨#[]⟩ : ByteArray), .int .i64 0] 120 (0, 0))) ∧ Aside0 (Below w.heap.size w wc))
    case first =>
     have H := HC7.out
     clear HC7
     by_cases c9 : (wrap64 (a1 + t164)) < (a0.size : Int)
     ·rw [if_pos c9] at H
      have c9b0 : decide ((wrap64 (a1 + t164)) < (a0.size : Int)) = true := decide_eq_true c9
      clear c9
      (first | rw [c9b0] | (simp only [i64_w, i32_w]; rw [c9b0]) | skip)
      obtain ⟨ji10, hji10⟩ : ∃ j_ : Int, (wrap64 (a1 + t164)) = j_ := ⟨_, rfl⟩
      replace H : (if 0 ≤ (ji10) then (foolscapref07_word.j0 k a1 (a0.extract (a1 : Int).toNat ((ji10) : Int).toNat) ji10 ((bt a0 (ji10)) == 40)) else (none)) = some (r1, r2, r3, r4, r5, r6, r7, r8, r9, r10, r11, r12, r13, r14) := by first | (rw [hji10] at H; exact H) | (simp only [hji10] at H ⊢; exact H)
      (try rw [hji10] at c5b0)
      (try rw [hji10] at c5b1)
      (try rw [hji10] at c5)
      (try rw [hji10] at c6b0)
      (try rw [hji10] at c6b1)
      (try rw [hji10] at c6)
      (try rw [hji10] at c9b0)
      have hji10w : (IntKind.i64.wrap (a1 + t164)) = ji10 := (i64_w _).trans hji10
      by_cases c11 : 0 ≤ (ji10)
      ·rw [if_pos c11] at H
       have c11b0 : decide (0 ≤ (ji10)) = true := decide_eq_true c11
       clear c11
       have H' := Aside0.mk H
       clear H
       have p12 : 0 ≤ ((ji10) : Int) := of_decide_eq_true kA
       have q12 : (ji10) < (a0.size : Int) := of_decide_eq_true kA
       have hx12 := bt_at a0 (ji10)
       replace p12 := eq_true p12
       replace q12 := eq_true q12
       go_wp2
       go_meet
       case rel => exact ⟨_, (((bt a0 (ji10)) == 40)), (by first | rfl | (simp; done) | (simp only [← hji10] <;> (first | rfl | simp)) | (simp [*]; done)), (by first | exact H' | (simp only [hji10]; exact H')), ⟨by first | omega | exact Nat.le_refl _⟩, ⟨have bk_ := BK163.out; bkA⟩, ⟨hbA⟩⟩
      ·rw [if_neg c11] at H
       exact absurd H (by simp)
     ·rw [if_neg c9] at H
      have c9b0 : decide ((wrap64 (a1 + t164)) < (a0.size : Int)) = false := decide_eq_false c9
      clear c9
      (first | rw [c9b0] | (simp only [i64_w, i32_w]; rw [c9b0]) | skip)
      have H' := Aside0.mk H
      clear H
      go_wp2
      go_meet
      case rel => exact ⟨_, (false), (rflS), H', ⟨by first | omega | exact Nat.le_refl _⟩, ⟨have bk_ := BK163.out; bkA⟩, ⟨hbA⟩⟩
    case rest =>
     clear HC7
     try clear c1
     try clear p1
     try clear q1
     try clear hx1
     try clear p2
     try clear c4
     try clear c4b0
     try clear c4b1
     try clear c5
     try clear c5b0
     try clear c5b1
     try clear c6
     try clear c6b0
     try clear c6b1
     try clear p6
     try clear c9
     try clear c9b0
     try clear c11
     try clear c11b0
     try clear p12
     try clear q12
     try clear hx12
     try clear p12
     try clear q12
     obtain ⟨kq, x34_6, rfl, HA, HJ6, BK163, HB⟩ := hcut
     cases kq with
     | zero => exact absurd HA.out (by simp [foolscapref07_word.j0])
     | succ kj6 =>
      have H := HA.out
      clear HA
      simp only [foolscapref07_word.j0] at H
      by_cases c13 : x34_6 = true
      ·subst c13
       have H1 : ((foolscapref07_Name.f kj6 (a0.extract (a1 : Int).toNat ((wrap64 (a1 + t164)) : Int).toNat)).bind fun t165 => (if t165 = true then ((foolscapref04_Fold.f (a0.extract (a1 : Int).toNat ((wrap64 (a1 + t164)) : Int).toNat)).bind fun t166 => (some (3, 0, 0, (⟨#[]⟩ : ByteArray), false, 0, 0, 0, false, false, t166, a1, (wrap64 (a1 + t164)), 0))) else (some (0, 0, 0, (⟨#[]⟩ : ByteArray), false, 0, 0, 0, false, false, (⟨#[]⟩ : ByteArray), 0, 0, 5)))) = some (r1, r2, r3, r4, r5, r6, r7, r8, r9, r10, r11, r12, r13, r14) := by rw [if_pos rfl] at H; exact H
       clear H
       have H := H1
       clear H1
       replace H := Option.bind_eq_some_iff.mp H
       obtain ⟨t165, A140, H⟩ := H
       replace H : (if t165 = true then ((foolscapref04_Fold.f (a0.extract (a1 : Int).toNat ((wrap64 (a1 + t164)) : Int).toNat)).bind fun t166 => (some (3, 0, 0, (⟨#[]⟩ : ByteArray), false, 0, 0, 0, false, false, t166, a1, (wrap64 (a1 + t164)), 0))) else (some (0, 0, 0, (⟨#[]⟩ : ByteArray), false, 0, 0, 0, false, false, (⟨#[]⟩ : ByteArray), 0, 0, 5))) = some (r1, r2, r3, r4, r5, r6, r7, r8, r9, r10, r11, r12, r13, r14) := H
       have A14 := Aside0.mk A140
       clear A140
       by_cases c15 : t165 = true
       ·subst c15
        have H1 : ((foolscapref04_Fold.f (a0.extract (a1 : Int).toNat ((wrap64 (a1 + t164)) : Int).toNat)).bind fun t166 => (some (3, 0, 0, (⟨#[]⟩ : ByteArray), false, 0, 0, 0, false, false, t166, a1, (wrap64 (a1 + t164)), 0))) = some (r1, r2, r3, r4, r5, r6, r7, r8, r9, r10, r11, r12, r13, r14) := by rw [if_pos rfl] at H; exact H
        clear H
        have H := H1
        clear H1
        replace H := Option.bind_eq_some_iff.mp H
        obtain ⟨t166, A160, H⟩ := H
        replace H : (some (3, 0, 0, (⟨#[]⟩ : ByteArray), false, 0, 0, 0, false, false, t166, a1, (wrap64 (a1 + t164)), 0)) = some (r1, r2, r3, r4, r5, r6, r7, r8, r9, r10, r11, r12, r13, r14) := H
        have A16 := Aside0.mk A160
        clear A160
        simp only [Option.some.injEq, Prod.mk.injEq] at H
        obtain ⟨rfl, rfl, rfl, rfl, rfl, rfl, rfl, rfl, rfl, rfl, rfl, rfl, rfl, rfl⟩ := H
        go_wp2_with (first | ((with_reducible refine gate_callee (f := 85) rfl ?_); refine goesL_ (some 36) rfl rfl Tryz.func85 (by kernel_rfl) rfl #[.string (a0.extract (a1 : Int).toNat ((wrap64 (a1 + t164)) : Int).toNat)] rfl argA ?_; (with_reducible refine (foolscapref07_Name.calls kj6 (a0.extract (a1 : Int).toNat ((wrap64 (a1 + t164)) : Int).toNat) true _ A14.out).mono ?_); rintro e w' ⟨rfl, ⟨nd, rfl⟩⟩; refine ⟨_, rfl, ?_⟩; (try (rw [drewN_self wc]; generalize hq_ : World.drewN wc _ = wc; have n0_ : Aside0 (wc.heap[gb163]? = some (.cells #[.int .i64 0, .int .i64 0, .int .i64 0, .string (⟨#[]⟩ : ByteArray), .bool false, .int .i64 0, .int .i64 0, .int .i64 0, .bool false, .bool false, .string (⟨#[]⟩ : ByteArray), .int .i64 0] 120 (0, 0))) := ⟨by rw [← hq_]; exact (have bk_ := BK163.out; bkA)⟩; have n1_ : Aside0 (Below w.heap.size w wc) := ⟨by rw [← hq_]; exact (hbA)⟩; clear BK163 HB hq_; have BK163 := n0_; have HB := n1_; clear n0_ n1_))) | ((with_reducible refine gate_callee (f := 86) rfl ?_); refine goesL_ (some 40) rfl rfl Tryz.func86 (by kernel_rfl) rfl #[.string (a0.extract (a1 : Int).toNat ((wrap64 (a1 + t164)) : Int).toNat)] rfl argA ?_; (with_reducible refine (foolscapref04_Fold.calls (a0.extract (a1 : Int).toNat ((wrap64 (a1 + t164)) : Int).toNat) t166 _ A16.out).mono ?_); rintro e w17 ⟨rfl, hb⟩; refine ⟨_, rfl, ?_⟩; have n0_ := Aside0.mk (blk_below (g := gb163) (o := .cells #[.int .i64 0, .int .i64 0, .int .i64 0, .string (⟨#[]⟩ : ByteArray), .bool false, .int .i64 0, .int .i64 0, .int .i64 0, .bool false, .bool false, .string (⟨#[]⟩ : ByteArray), .int .i64 0] 120 (0, 0)) (have bk_ := BK163.out; bkA) hb); have n1_ := Aside0.mk (below_step (hbA) hb); clear BK163; clear HB; have BK163 := n0_; have HB := n1_; clear n0_ n1_; (try clear hb); (try clear hb2); (try clear hk); (try clear hi); obtain ⟨hcz18_0, hcz18_1, hcz18_2, hcz18_3, hcz18_4, hcz18_5, hcz18_6, hcz18_7, hcz18_8, hcz18_9, hcz18_10, hcz18_11⟩ := cellsA12 BK163.out; obtain ⟨hfz18_0, hfz18_1, hfz18_2, hfz18_3, hfz18_4, hfz18_5, hfz18_6, hfz18_7, hfz18_8, hfz18_9, hfz18_10, hfz18_11⟩ := frozA12 BK163.out))
        refine bodyPost_ret (results_ctt rfl _ _ gb163 120 #[.int .i64 3, .int .i64 0, .int .i64 0, .string (⟨#[]⟩ : ByteArray), .bool false, .int .i64 0, .int .i64 0, .int .i64 0, .bool false, .bool false, .string t166, .int .i64 a1] (0, 0) _ rfl (by (with_reducible repeat (first | refine bqZ ?_ _ | refine bqY ?_ | refine bqX ?_ _)); refine put12 (.int .i64 0) (.int .i64 0) (.int .i64 0) (.string (⟨#[]⟩ : ByteArray)) (.bool false) (.int .i64 0) (.int .i64 0) (.int .i64 0) (.bool false) (.bool false) (.string (⟨#[]⟩ : ByteArray)) (.int .i64 0) ?_; exact (have bk_ := BK163.out; bkA)) Tryz.underlying120 rfl (by kernel_rfl)) rfl ?_
        exact ⟨rflE, hbA⟩
       ·replace c15 := Bool.eq_false_iff.mpr c15
        subst c15
        have H1 : (some (0, 0, 0, (⟨#[]⟩ : ByteArray), false, 0, 0, 0, false, false, (⟨#[]⟩ : ByteArray), 0, 0, 5)) = some (r1, r2, r3, r4, r5, r6, r7, r8, r9, r10, r11, r12, r13, r14) := by rw [if_neg (show ¬ (false = true) by decide)] at H; exact H
        clear H
        have H := H1
        clear H1
        simp only [Option.some.injEq, Prod.mk.injEq] at H
        obtain ⟨rfl, rfl, rfl, rfl, rfl, rfl, rfl, rfl, rfl, rfl, rfl, rfl, rfl, rfl⟩ := H
        go_wp2_with (first | ((with_reducible refine gate_callee (f := 85) rfl ?_); refine goesL_ (some 36) rfl rfl Tryz.func85 (by kernel_rfl) rfl #[.string (a0.extract (a1 : Int).toNat ((wrap64 (a1 + t164)) : Int).toNat)] rfl argA ?_; (with_reducible refine (foolscapref07_Name.calls kj6 (a0.extract (a1 : Int).toNat ((wrap64 (a1 + t164)) : Int).toNat) false _ A14.out).mono ?_); rintro e w' ⟨rfl, ⟨nd, rfl⟩⟩; refine ⟨_, rfl, ?_⟩; (try (rw [drewN_self wc]; generalize hq_ : World.drewN wc _ = wc; have n0_ : Aside0 (wc.heap[gb163]? = some (.cells #[.int .i64 0, .int .i64 0, .int .i64 0, .string (⟨#[]⟩ : ByteArray), .bool false, .int .i64 0, .int .i64 0, .int .i64 0, .bool false, .bool false, .string (⟨#[]⟩ : ByteArray), .int .i64 0] 120 (0, 0))) := ⟨by rw [← hq_]; exact (have bk_ := BK163.out; bkA)⟩; have n1_ : Aside0 (Below w.heap.size w wc) := ⟨by rw [← hq_]; exact (hbA)⟩; clear BK163 HB hq_; have BK163 := n0_; have HB := n1_; clear n0_ n1_)); obtain ⟨hcz19_0, hcz19_1, hcz19_2, hcz19_3, hcz19_4, hcz19_5, hcz19_6, hcz19_7, hcz19_8, hcz19_9, hcz19_10, hcz19_11⟩ := cellsA12 BK163.out; obtain ⟨hfz19_0, hfz19_1, hfz19_2, hfz19_3, hfz19_4, hfz19_5, hfz19_6, hfz19_7, hfz19_8, hfz19_9, hfz19_10, hfz19_11⟩ := frozA12 BK163.out))
        refine bodyPost_ret (results_ctt rfl _ _ gb163 120 #[.int .i64 0, .int .i64 0, .int .i64 0, .string (⟨#[]⟩ : ByteArray), .bool false, .int .i64 0, .int .i64 0, .int .i64 0, .bool false, .bool false, .string (⟨#[]⟩ : ByteArray), .int .i64 0] (0, 0) _ rfl (by (with_reducible repeat (first | refine bqZ ?_ _ | refine bqY ?_ | refine bqX ?_ _)); refine put12 (.int .i64 0) (.int .i64 0) (.int .i64 0) (.string (⟨#[]⟩ : ByteArray)) (.bool false) (.int .i64 0) (.int .i64 0) (.int .i64 0) (.bool false) (.bool false) (.string (⟨#[]⟩ : ByteArray)) (.int .i64 0) ?_; exact (have bk_ := BK163.out; bkA)) Tryz.underlying120 rfl (by kernel_rfl)) rfl ?_
        exact ⟨rflE, hbA⟩
      ·replace c13 := Bool.eq_false_iff.mpr c13
       subst c13
       have H1 : ((foolscapref04_Fold.f (a0.extract (a1 : Int).toNat ((wrap64 (a1 + t164)) : Int).toNat)).bind fun t167 => (if t167.toList = ([84, 82, 85, 69] : List UInt8) then (foolscapref07_word.j1 kj6 a1 (a0.extract (a1 : Int).toNat ((wrap64 (a1 + t164)) : Int).toNat) (wrap64 (a1 + t164)) t167 true) else (foolscapref07_word.j1 kj6 a1 (a0.extract (a1 : Int).toNat ((wrap64 (a1 + t164)) : Int).toNat) (wrap64 (a1 + t164)) t167 (t167.toList == ([70, 65, 76, 83, 69] : List UInt8))))) = some (r1, r2, r3, r4, r5, r6, r7, r8, r9, r10, r11, r12, r13, r14) := by rw [if_neg (show ¬ (false = true) by decide)] at H; exact H
       clear H
       have H := H1
       clear H1
       replace H := Option.bind_eq_some_iff.mp H
       obtain ⟨t167, A200, H⟩ := H
       replace H : (if t167.toList = ([84, 82, 85, 69] : List UInt8) then (foolscapref07_word.j1 kj6 a1 (a0.extract (a1 : Int).toNat ((wrap64 (a1 + t164)) : Int).toNat) (wrap64 (a1 + t164)) t167 true) else (foolscapref07_word.j1 kj6 a1 (a0.extract (a1 : Int).toNat ((wrap64 (a1 + t164)) : Int).toNat) (wrap64 (a1 + t164)) t167 (t167.toList == ([70, 65, 76, 83, 69] : List UInt8)))) = some (r1, r2, r3, r4, r5, r6, r7, r8, r9, r10, r11, r12, r13, r14) := H
       have A20 := Aside0.mk A200
       clear A200
       have HC21 := Aside0.mk H
       clear H
       go_upto_region 8 with (first | ((with_reducible refine gate_callee (f := 86) rfl ?_); refine goesL_ (some 45) rfl rfl Tryz.func86 (by kernel_rfl) rfl #[.string (a0.extract (a1 : Int).toNat ((wrap64 (a1 + t164)) : Int).toNat)] rfl argA ?_; (with_reducible refine (foolscapref04_Fold.calls (a0.extract (a1 : Int).toNat ((wrap64 (a1 + t164)) : Int).toNat) t167 _ A20.out).mono ?_); rintro e w22 ⟨rfl, hb⟩; refine ⟨_, rfl, ?_⟩; have n0_ := Aside0.mk (blk_below (g := gb163) (o := .cells #[.int .i64 0, .int .i64 0, .int .i64 0, .string (⟨#[]⟩ : ByteArray), .bool false, .int .i64 0, .int .i64 0, .int .i64 0, .bool false, .bool false, .string (⟨#[]⟩ : ByteArray), .int .i64 0] 120 (0, 0)) (have bk_ := BK163.out; bkA) hb); have n1_ := Aside0.mk (below_step (hbA) hb); clear BK163; clear HB; have BK163 := n0_; have HB := n1_; clear n0_ n1_; (try clear hb); (try clear hb2); (try clear hk); (try clear hi)))
       (try simp only [Act.put, List.setIfInBounds_toArray, List.set_cons_zero, List.set_cons_succ])
       go_cut [51] (fun v51 wc => ∃ (kq : Nat) (x51_20 : Bool), v51 = .bool x51_20 ∧ Aside0 (foolscapref07_word.j1 kq a1 (a0.extract (a1 : Int).toNat ((wrap64 (a1 + t164)) : Int).toNat) (wrap64 (a1 + t164)) t167 x51_20 = some (r1, r2, r3, r4, r5, r6, r7, r8, r9, r10, r11, r12, r13, r14)) ∧ Aside0 (kq ≤ kj6) ∧ Aside0 (wc.heap[gb163]? = some (.cells #[.int .i64 0, .int .i64 0, .int .i64 0, .string (⟨#[]⟩ : ByteArray), .bool false, .int .i64 0, .int .i64 0, .int .i64 0, .bool false, .bool false, .string (⟨#[]⟩ : ByteArray), .int .i64 0] 120 (0, 0))) ∧ Aside0 (Below w.heap.size w wc))
       case first =>
        have H := HC21.out
        clear HC21
        by_cases c23 : t167.toList = ([84, 82, 85, 69] : List UInt8)
        ·rw [if_pos c23] at H
         have c23b0 : (t167.toList == ([84, 82, 85, 69] : List UInt8)) = true := beq_iff_eq.mpr c23
         have c23b1 : (t167.toList != ([84, 82, 85, 69] : List UInt8)) = false := bne_eq_false_iff_eq.mpr c23
         clear c23
         (first | rw [c23b0] | (simp only [i64_w, i32_w]; rw [c23b0]) | skip)
         have H' := Aside0.mk H
         clear H
         go_wp2
         go_meet
         case rel => exact ⟨_, (true), (rflS), H', ⟨by have := HJ6.out; first | omega | exact Nat.le_refl _⟩, ⟨have bk_ := BK163.out; bkA⟩, ⟨hbA⟩⟩
        ·rw [if_neg c23] at H
         have c23b0 : (t167.toList == ([84, 82, 85, 69] : List UInt8)) = false := beq_eq_false_iff_ne.mpr c23
         have c23b1 : (t167.toList != ([84, 82, 85, 69] : List UInt8)) = true := bne_iff_ne.mpr c23
         (first | rw [c23b0] | (simp only [i64_w, i32_w]; rw [c23b0]) | skip)
         have H' := Aside0.mk H
         clear H
         go_wp2
         go_meet
         case rel => exact ⟨_, ((t167.toList == ([70, 65, 76, 83, 69] : List UInt8))), (rflS), H', ⟨by have := HJ6.out; first | omega | exact Nat.le_refl _⟩, ⟨have bk_ := BK163.out; bkA⟩, ⟨hbA⟩⟩
       case rest =>
        clear HC21
        try clear c1
        try clear p1
        try clear q1
        try clear hx1
        try clear c2
        try clear p2
        try clear c4
        try clear c4b0
        try clear c4b1
        try clear c5
        try clear c5b0
        try clear c5b1
        try clear c6
        try clear c6b0
        try clear c6b1
        try clear p6
        try clear c8
        try clear c9
        try clear c9b0
        try clear c11
        try clear c11b0
        try clear p12
        try clear q12
        try clear hx12
        try clear c13
        try clear c15
        try clear c23
        try clear c23b0
        try clear c23b1
        try clear hcz18_0
        try clear hcz18_1
        try clear hcz18_10
        try clear hcz18_11
        try clear hcz18_2
        try clear hcz18_3
        try clear hcz18_4
        try clear hcz18_5
        try clear hcz18_6
        try clear hcz18_7
        try clear hcz18_8
        try clear hcz18_9
        try clear hcz19_0
        try clear hcz19_1
        try clear hcz19_10
        try clear hcz19_11
        try clear hcz19_2
        try clear hcz19_3
        try clear hcz19_4
        try clear hcz19_5
        try clear hcz19_6
        try clear hcz19_7
        try clear hcz19_8
        try clear hcz19_9
        try clear hfz18_0
        try clear hfz18_1
        try clear hfz18_10
        try clear hfz18_11
        try clear hfz18_2
        try clear hfz18_3
        try clear hfz18_4
        try clear hfz18_5
        try clear hfz18_6
        try clear hfz18_7
        try clear hfz18_8
        try clear hfz18_9
        try clear hfz19_0
        try clear hfz19_1
        try clear hfz19_10
        try clear hfz19_11
        try clear hfz19_2
        try clear hfz19_3
        try clear hfz19_4
        try clear hfz19_5
        try clear hfz19_6
        try clear hfz19_7
        try clear hfz19_8
        try clear hfz19_9
        try clear p1
        try clear p12
        try clear p2
        try clear p6
        try clear q1
        try clear q12
        obtain ⟨kq, x51_20, rfl, HA, HJ20, BK163, HB⟩ := hcut
        cases kq with
        | zero => exact absurd HA.out (by simp [foolscapref07_word.j1])
        | succ kj20 =>
         have H := HA.out
         clear HA
         simp only [foolscapref07_word.j1] at H
         by_cases c24 : x51_20 = true
         ·subst c24
          have H1 : (some (1, 3, 0, (⟨#[]⟩ : ByteArray), (t167.toList == ([84, 82, 85, 69] : List UInt8)), 0, 0, 0, false, false, (⟨#[]⟩ : ByteArray), a1, (wrap64 (a1 + t164)), 0)) = some (r1, r2, r3, r4, r5, r6, r7, r8, r9, r10, r11, r12, r13, r14) := by rw [if_pos rfl] at H; exact H
          clear H
          have H := H1
          clear H1
          simp only [Option.some.injEq, Prod.mk.injEq] at H
          obtain ⟨rfl, rfl, rfl, rfl, rfl, rfl, rfl, rfl, rfl, rfl, rfl, rfl, rfl, rfl⟩ := H
          obtain ⟨hcz25_0, hcz25_1, hcz25_2, hcz25_3, hcz25_4, hcz25_5, hcz25_6, hcz25_7, hcz25_8, hcz25_9, hcz25_10, hcz25_11⟩ := cellsA12 BK163.out
          obtain ⟨hfz25_0, hfz25_1, hfz25_2, hfz25_3, hfz25_4, hfz25_5, hfz25_6, hfz25_7, hfz25_8, hfz25_9, hfz25_10, hfz25_11⟩ := frozA12 BK163.out
          go_wp2
          refine bodyPost_ret (results_ctt rfl _ _ gb163 120 #[.int .i64 1, .int .i64 3, .int .i64 0, .string (⟨#[]⟩ : ByteArray), .bool (t167.toList == ([84, 82, 85, 69] : List UInt8)), .int .i64 0, .int .i64 0, .int .i64 0, .bool false, .bool false, .string (⟨#[]⟩ : ByteArray), .int .i64 a1] (0, 0) _ rfl (by (with_reducible repeat (first | refine bqZ ?_ _ | refine bqY ?_ | refine bqX ?_ _)); refine put12 (.int .i64 0) (.int .i64 0) (.int .i64 0) (.string (⟨#[]⟩ : ByteArray)) (.bool false) (.int .i64 0) (.int .i64 0) (.int .i64 0) (.bool false) (.bool false) (.string (⟨#[]⟩ : ByteArray)) (.int .i64 0) ?_; exact (have bk_ := BK163.out; bkA)) Tryz.underlying120 rfl (by kernel_rfl)) rfl ?_
          exact ⟨rflE, hbA⟩
         ·replace c24 := Bool.eq_false_iff.mpr c24
          subst c24
          have H1 : ((foolscapref05_Parse.f kj20 (a0.extract (a1 : Int).toNat ((wrap64 (a1 + t164)) : Int).toNat)).bind fun bt168 => (if bt168.2.2.2.2 = 0 then (some (2, 0, 0, (⟨#[]⟩ : ByteArray), false, 0, bt168.1, bt168.2.1, bt168.2.2.1, bt168.2.2.2.1, (⟨#[]⟩ : ByteArray), a1, (wrap64 (a1 + t164)), 0)) else (some (0, 0, 0, (⟨#[]⟩ : ByteArray), false, 0, 0, 0, false, false, (⟨#[]⟩ : ByteArray), 0, 0, bt168.2.2.2.2)))) = some (r1, r2, r3, r4, r5, r6, r7, r8, r9, r10, r11, r12, r13, r14) := by rw [if_neg (show ¬ (false = true) by decide)] at H; exact H
          clear H
          have H := H1
          clear H1
          replace H := Option.bind_eq_some_iff.mp H
          obtain ⟨⟨t168, t169, t170, t171, t172⟩, A260, H⟩ := H
          replace H : (if t172 = 0 then (some (2, 0, 0, (⟨#[]⟩ : ByteArray), false, 0, t168, t169, t170, t171, (⟨#[]⟩ : ByteArray), a1, (wrap64 (a1 + t164)), 0)) else (some (0, 0, 0, (⟨#[]⟩ : ByteArray), false, 0, 0, 0, false, false, (⟨#[]⟩ : ByteArray), 0, 0, t172))) = some (r1, r2, r3, r4, r5, r6, r7, r8, r9, r10, r11, r12, r13, r14) := H
          have A26 := Aside0.mk A260
          clear A260
          by_cases c27 : t172 = 0
          ·rw [if_pos c27] at H
           have c27b0 : (t172 == 0) = true := beq_iff_eq.mpr c27
           have c27b1 : (t172 != 0) = false := bne_eq_false_iff_eq.mpr c27
           clear c27
           simp only [Option.some.injEq, Prod.mk.injEq] at H
           obtain ⟨rfl, rfl, rfl, rfl, rfl, rfl, rfl, rfl, rfl, rfl, rfl, rfl, rfl, rfl⟩ := H
           go_wp2_with (first | ((with_reducible refine gate_callee (f := 135) rfl ?_); refine goesL_ (some 60) rfl rfl Tryz.func135 (by kernel_rfl) rfl #[.string (a0.extract (a1 : Int).toNat ((wrap64 (a1 + t164)) : Int).toNat)] rfl argA ?_; (with_reducible refine (foolscapref05_Parse.calls kj20 (a0.extract (a1 : Int).toNat ((wrap64 (a1 + t164)) : Int).toNat) t168 t169 t170 t171 t172 _ A26.out).mono ?_); rintro e w28 ⟨rfl, hb⟩; refine ⟨_, rfl, ?_⟩; have n0_ := Aside0.mk (blk_below (g := gb163) (o := .cells #[.int .i64 0, .int .i64 0, .int .i64 0, .string (⟨#[]⟩ : ByteArray), .bool false, .int .i64 0, .int .i64 0, .int .i64 0, .bool false, .bool false, .string (⟨#[]⟩ : ByteArray), .int .i64 0] 120 (0, 0)) (have bk_ := BK163.out; bkA) hb); have n1_ := Aside0.mk (below_step (hbA) hb); clear BK163; clear HB; have BK163 := n0_; have HB := n1_; clear n0_ n1_; (try clear hb); (try clear hb2); (try clear hk); (try clear hi)) | ((with_reducible refine gate_dst (N := 11) rfl ?_); refine boxE 11 41 (#[.int .i64 0, .int .i64 0, .bool false, .bool false]) ?_; intro gb173 hg w29 hbox hb; have n0_ := Aside0.mk (blk_below (g := gb163) (o := .cells #[.int .i64 0, .int .i64 0, .int .i64 0, .string (⟨#[]⟩ : ByteArray), .bool false, .int .i64 0, .int .i64 0, .int .i64 0, .bool false, .bool false, .string (⟨#[]⟩ : ByteArray), .int .i64 0] 120 (0, 0)) (have bk_ := BK163.out; bkA) hb); have n1_ := Aside0.mk (below_step (hbA) hb); have n2_ := Aside0.mk (hbox); have n3_ := Aside0.mk ((by rw [hg]; exact (below_size (hbA)) : w.heap.size ≤ gb173)); have n4_ := n3_; have n5_ := Aside0.mk ((by rw [hg]; exact Nat.ne_of_lt (blk_lt (g := gb163) (o := .cells #[.int .i64 0, .int .i64 0, .int .i64 0, .string (⟨#[]⟩ : ByteArray), .bool false, .int .i64 0, .int .i64 0, .int .i64 0, .bool false, .bool false, .string (⟨#[]⟩ : ByteArray), .int .i64 0] 120 (0, 0)) (have bk_ := BK163.out; bkA)) : gb163 ≠ gb173)); have n6_ := Aside0.mk n5_.out.symm; clear BK163; clear HB; have BK163 := n0_; have HB := n1_; have BK173 := n2_; have GW173 := n3_; have GE173 := n4_; have NB163_173 := n5_; have NB173_163 := n6_; clear n0_ n1_ n2_ n3_ n4_ n5_ n6_; clear hb hbox hg; have hnb30 := NB173_163.out; have hnc30 := NB163_173.out; obtain ⟨hcz31_0, hcz31_1, hcz31_2, hcz31_3⟩ := cellsA4 BK173.out; obtain ⟨hfz31_0, hfz31_1, hfz31_2, hfz31_3⟩ := frozA4 BK173.out; obtain ⟨hcz32_0, hcz32_1, hcz32_2, hcz32_3, hcz32_4, hcz32_5, hcz32_6, hcz32_7, hcz32_8, hcz32_9, hcz32_10, hcz32_11⟩ := cellsA12 BK163.out; obtain ⟨hfz32_0, hfz32_1, hfz32_2, hfz32_3, hfz32_4, hfz32_5, hfz32_6, hfz32_7, hfz32_8, hfz32_9, hfz32_10, hfz32_11⟩ := frozA12 BK163.out))
           refine bodyPost_ret (results_ctt rfl _ _ gb163 120 #[.int .i64 2, .int .i64 0, .int .i64 0, .string (⟨#[]⟩ : ByteArray), .bool false, .int .i64 0, .int .i64 t168, .int .i64 t169, .bool t170, .bool t171, .string (⟨#[]⟩ : ByteArray), .int .i64 a1] (0, 0) _ rfl (by (with_reducible repeat (first | refine bqZ ?_ _ | refine bqY ?_ | refine bqX ?_ _)); refine put12 (.int .i64 0) (.int .i64 0) (.int .i64 0) (.string (⟨#[]⟩ : ByteArray)) (.bool false) (.int .i64 0) (.int .i64 0) (.int .i64 0) (.bool false) (.bool false) (.string (⟨#[]⟩ : ByteArray)) (.int .i64 0) ?_; (with_reducible repeat (first | refine bqZ ?_ _ | refine bqY ?_ | refine bqX ?_ _)); refine blk_far ?_ NB163_173.out _; (with_reducible repeat (first | refine bqZ ?_ _ | refine bqY ?_ | refine bqX ?_ _)); refine blk_far ?_ NB163_173.out _; (with_reducible repeat (first | refine bqZ ?_ _ | refine bqY ?_ | refine bqX ?_ _)); refine blk_far ?_ NB163_173.out _; (with_reducible repeat (first | refine bqZ ?_ _ | refine bqY ?_ | refine bqX ?_ _)); refine blk_far ?_ NB163_173.out _; exact (have bk_ := BK163.out; bkA)) Tryz.underlying120 rfl (by kernel_rfl)) rfl ?_
           exact ⟨rflE, hbA⟩
          ·rw [if_neg c27] at H
           have c27b0 : (t172 == 0) = false := beq_eq_false_iff_ne.mpr c27
           have c27b1 : (t172 != 0) = true := bne_iff_ne.mpr c27
           simp only [Option.some.injEq, Prod.mk.injEq] at H
           obtain ⟨rfl, rfl, rfl, rfl, rfl, rfl, rfl, rfl, rfl, rfl, rfl, rfl, rfl, rfl⟩ := H
           go_wp2_with (first | ((with_reducible refine gate_callee (f := 135) rfl ?_); refine goesL_ (some 60) rfl rfl Tryz.func135 (by kernel_rfl) rfl #[.string (a0.extract (a1 : Int).toNat ((wrap64 (a1 + t164)) : Int).toNat)] rfl argA ?_; (with_reducible refine (foolscapref05_Parse.calls kj20 (a0.extract (a1 : Int).toNat ((wrap64 (a1 + t164)) : Int).toNat) t168 t169 t170 t171 t172 _ A26.out).mono ?_); rintro e w33 ⟨rfl, hb⟩; refine ⟨_, rfl, ?_⟩; have n0_ := Aside0.mk (blk_below (g := gb163) (o := .cells #[.int .i64 0, .int .i64 0, .int .i64 0, .string (⟨#[]⟩ : ByteArray), .bool false, .int .i64 0, .int .i64 0, .int .i64 0, .bool false, .bool false, .string (⟨#[]⟩ : ByteArray), .int .i64 0] 120 (0, 0)) (have bk_ := BK163.out; bkA) hb); have n1_ := Aside0.mk (below_step (hbA) hb); clear BK163; clear HB; have BK163 := n0_; have HB := n1_; clear n0_ n1_; (try clear hb); (try clear hb2); (try clear hk); (try clear hi)) | ((with_reducible refine gate_dst (N := 11) rfl ?_); refine boxE 11 41 (#[.int .i64 0, .int .i64 0, .bool false, .bool false]) ?_; intro gb173 hg w34 hbox hb; have n0_ := Aside0.mk (blk_below (g := gb163) (o := .cells #[.int .i64 0, .int .i64 0, .int .i64 0, .string (⟨#[]⟩ : ByteArray), .bool false, .int .i64 0, .int .i64 0, .int .i64 0, .bool false, .bool false, .string (⟨#[]⟩ : ByteArray), .int .i64 0] 120 (0, 0)) (have bk_ := BK163.out; bkA) hb); have n1_ := Aside0.mk (below_step (hbA) hb); have n2_ := Aside0.mk (hbox); have n3_ := Aside0.mk ((by rw [hg]; exact (below_size (hbA)) : w.heap.size ≤ gb173)); have n4_ := n3_; have n5_ := Aside0.mk ((by rw [hg]; exact Nat.ne_of_lt (blk_lt (g := gb163) (o := .cells #[.int .i64 0, .int .i64 0, .int .i64 0, .string (⟨#[]⟩ : ByteArray), .bool false, .int .i64 0, .int .i64 0, .int .i64 0, .bool false, .bool false, .string (⟨#[]⟩ : ByteArray), .int .i64 0] 120 (0, 0)) (have bk_ := BK163.out; bkA)) : gb163 ≠ gb173)); have n6_ := Aside0.mk n5_.out.symm; clear BK163; clear HB; have BK163 := n0_; have HB := n1_; have BK173 := n2_; have GW173 := n3_; have GE173 := n4_; have NB163_173 := n5_; have NB173_163 := n6_; clear n0_ n1_ n2_ n3_ n4_ n5_ n6_; clear hb hbox hg; have hnb35 := NB173_163.out; have hnc35 := NB163_173.out; obtain ⟨hcz36_0, hcz36_1, hcz36_2, hcz36_3⟩ := cellsA4 BK173.out; obtain ⟨hfz36_0, hfz36_1, hfz36_2, hfz36_3⟩ := frozA4 BK173.out; obtain ⟨hcz37_0, hcz37_1, hcz37_2, hcz37_3, hcz37_4, hcz37_5, hcz37_6, hcz37_7, hcz37_8, hcz37_9, hcz37_10, hcz37_11⟩ := cellsA12 BK163.out; obtain ⟨hfz37_0, hfz37_1, hfz37_2, hfz37_3, hfz37_4, hfz37_5, hfz37_6, hfz37_7, hfz37_8, hfz37_9, hfz37_10, hfz37_11⟩ := frozA12 BK163.out))
           refine bodyPost_ret (results_ctt rfl _ _ gb163 120 #[.int .i64 0, .int .i64 0, .int .i64 0, .string (⟨#[]⟩ : ByteArray), .bool false, .int .i64 0, .int .i64 0, .int .i64 0, .bool false, .bool false, .string (⟨#[]⟩ : ByteArray), .int .i64 0] (0, 0) _ rfl (by (with_reducible repeat (first | refine bqZ ?_ _ | refine bqY ?_ | refine bqX ?_ _)); refine put12 (.int .i64 0) (.int .i64 0) (.int .i64 0) (.string (⟨#[]⟩ : ByteArray)) (.bool false) (.int .i64 0) (.int .i64 0) (.int .i64 0) (.bool false) (.bool false) (.string (⟨#[]⟩ : ByteArray)) (.int .i64 0) ?_; (with_reducible repeat (first | refine bqZ ?_ _ | refine bqY ?_ | refine bqX ?_ _)); refine blk_far ?_ NB163_173.out _; (with_reducible repeat (first | refine bqZ ?_ _ | refine bqY ?_ | refine bqX ?_ _)); refine blk_far ?_ NB163_173.out _; (with_reducible repeat (first | refine bqZ ?_ _ | refine bqY ?_ | refine bqX ?_ _)); refine blk_far ?_ NB163_173.out _; (with_reducible repeat (first | refine bqZ ?_ _ | refine bqY ?_ | refine bqX ?_ _)); refine blk_far ?_ NB163_173.out _; exact (have bk_ := BK163.out; bkA)) Tryz.underlying120 rfl (by kernel_rfl)) rfl ?_
           exact ⟨rflE, hbA⟩
   ·rw [if_neg c6] at H
    exact absurd H (by simp)
  ·rw [if_neg c5] at H
   exact absurd H (by simp)
 ·rw [if_neg c4] at H
  exact absurd H (by simp)
end Go.Proofs.YtopdjokncbpghaaGreatDoor.Pr
end
