/-
  Lemmas for the law FFindsFChecksFRectsFKids.
-/
import Derived.Test.YtopdjokncbpghaaGreatDoorSFFindsFChecksFRectsFKids5
import Derived.Test.YtopdjokncbpghaaGreatDoorSFFindsFChecksFRectsFKids7
import Derived.Test.YtopdjokncbpghaaGreatDoorSFFindsFChecksFRectsFKids28
set_option maxHeartbeats 8000000
set_option maxRecDepth 100000
set_option linter.unusedVariables false
set_option linter.unusedSimpArgs false
section
namespace Go.Proofs.YtopdjokncbpghaaGreatDoor.Pr
open Go.RowKit Go.Proofs.YtopdjokncbpghaaGreatDoorW.PrintWords Go.Proofs.YtopdjokncbpghaaGreatDoorW.PrintLast Go.Proofs.YtopdjokncbpghaaGreatDoorW.PrintMore
attribute [local go_sem] max2_int min2_int max_two min_two max_three min_three max_four min_four   -- for this text's walks alone
mutual
def foolscapref09_Find.l0 : Nat → ByteArray → List (S76) → Int → Option (ByteArray × Int × Int × List Int × Int)
 | 0, _, _, _ => none
 | k + 1, x0, x4, x5 => if x5 < (x4.length : Int) then (if 0 ≤ x5 then ((foolscapref09_words.f k ((rd_T76 x4 x5).f0)).bind fun t264 => (foolscapref09_Find.l1 k x0 x4 x5 t264 0)) else (none)) else (some ((⟨#[]⟩ : ByteArray), 0, 0, ([] : List Int), 8))
def foolscapref09_Find.l1 : Nat → ByteArray → List (S76) → Int → List ByteArray → Int → Option (ByteArray × Int × Int × List Int × Int)
 | 0, _, _, _, _, _ => none
 | k + 1, x0, x4, x5, x6, x7 => if x7 < (x6.length : Int) then (if 0 ≤ x7 then (if (rdOf ByteArray.empty x6 x7).toList = x0.toList then (if 0 ≤ x5 then (if x5 < (x4.length : Int) then (foolscapref09_Find.l2 k x4 x5 0 x0 ((rd_T76 x4 x5).f1) ((rd_T76 x4 x5).f2) ([] : List Int)) else (none)) else (none)) else (foolscapref09_Find.l1 k x0 x4 x5 x6 (wrap64 (x7 + 1)))) else (none)) else (foolscapref09_Find.l0 k x0 x4 (wrap64 (x5 + 1)))
def foolscapref09_Find.l2 : Nat → List (S76) → Int → Int → ByteArray → Int → Int → List Int → Option (ByteArray × Int × Int × List Int × Int)
 | 0, _, _, _, _, _, _, _ => none
 | k + 1, x4, x5, x9, x271000, x271001, x271002, x271003 => if 0 ≤ x5 then (if x5 < (x4.length : Int) then (if x9 < (((rd_T76 x4 x5).f3).size : Int) then (if 0 ≤ x9 then ((foolscapref09_want.f (bt ((rd_T76 x4 x5).f3) x9)).bind fun t273 => (if x271003.length < 17592186044416 then (foolscapref09_Find.l2 k x4 x5 (wrap64 (x9 + 1)) x271000 x271001 x271002 (x271003 ++ [t273])) else (none))) else (none)) else (some (x271000, x271001, x271002, x271003, 0))) else (none)) else (none)
end
def foolscapref09_Find.f (k : Nat) (a0 : ByteArray) : Option (ByteArray × Int × Int × List Int × Int) := (foolscapref09_table.f).bind fun t260 => (foolscapref09_Find.l0 k a0 t260 0)
def foolscapref09_Find.T10 : Bool × List (List Nat × List Nat) := (true, [([], []), ([], []), ([], []), ([1, 2], [1, 2]), ([3], [3]), ([4], [4]), ([], []), ([], []), ([6, 7], [6, 7]), ([8], [8]), ([9], [9]), ([0, 5, 10], [0, 5, 10]), ([], []), ([12, 11, 0, 1, 2, 3, 4, 5, 6, 7, 8, 9, 10, 11, 12], [11, 12])])
def foolscapref09_Find.B10 : List Nat := [0, 0, 0, 6, 14, 30, 0, 0, 192, 448, 960, 2047, 0, 8191]
theorem foolscapref09_Find.tab10 : rtab .any (opsOf Tryz.f11 10) = foolscapref09_Find.T10 := by kernel_rfl
theorem foolscapref09_Find.bits10 : waitsOk foolscapref09_Find.T10.2 foolscapref09_Find.B10 = true := by kernel_rfl
def foolscapref09_Find.T14 : Bool × List (List Nat × List Nat) := (true, [([], []), ([0], [0]), ([], []), ([], []), ([2, 3], [2, 3]), ([4], [4]), ([5], [5]), ([], []), ([6, 7], [6, 7]), ([8], [8]), ([9], [9]), ([1, 10, 9], [1, 10]), ([0, 1, 2, 3, 4, 5, 6, 7, 8, 9, 10, 11], []), ([12, 11, 11, 0, 1, 2, 3, 4, 5, 6, 7, 8, 9, 10, 11], [11, 12])])
def foolscapref09_Find.B14 : List Nat := [0, 1, 0, 0, 12, 28, 60, 0, 252, 508, 1020, 2047, 4095, 8191]
theorem foolscapref09_Find.tab14 : rtab .any (opsOf Tryz.f11 14) = foolscapref09_Find.T14 := by kernel_rfl
theorem foolscapref09_Find.bits14 : waitsOk foolscapref09_Find.T14.2 foolscapref09_Find.B14 = true := by kernel_rfl
theorem foolscapref09_Find.calls (k : Nat) (a0 : ByteArray) (r1 : ByteArray) (r2 : Int) (r3 : Int) (r4 : List Int) (r5 : Int) (w : World) (h : foolscapref09_Find.f k a0 = some (r1, r2, r3, r4, r5)) :
  Calls Tryz.prog 11 #[.string a0] w fun e w' => ∃ v3_ : Value, e = .returned (.tuple #[.agg #[.string r1, .int .i64 r2, .int .i64 r3, v3_], .int .i64 r5]) ∧ Kd.R (Kd.int .i64) 62 w' w.heap.size (fun _ => True) v3_ r4 ∧ Below w.heap.size w w' := by
 have hu24 := Tryz.underlying24
 have HB := Aside0.mk (Below.refl w.heap.size w)
 have H : ((foolscapref09_table.f).bind fun t260 => (foolscapref09_Find.l0 k a0 t260 0)) = some (r1, r2, r3, r4, r5) := h
 clear h
 replace H := Option.bind_eq_some_iff.mp H
 obtain ⟨t260, A20, H⟩ := H
 replace H : (foolscapref09_Find.l0 k a0 t260 0) = some (r1, r2, r3, r4, r5) := H
 have A2 := Aside0.mk A20
 clear A20
 have H' := Aside0.mk H
 clear H
 go_enter Tryz.func11, Tryz.ntmps11
 go_wp2_with (first | ((with_reducible refine gate_dst (N := 2) rfl ?_); refine boxE 2 24 (#[.string (⟨#[]⟩ : ByteArray), .int .i64 0, .int .i64 0, .slice none 0 0]) ?_; intro gb259 hg w3 hbox hb; have n0_ := Aside0.mk (below_step (hbA) hb); have n1_ := Aside0.mk (hbox); have n2_ := Aside0.mk ((by rw [hg]; exact (below_size (hbA)) : w.heap.size ≤ gb259)); have n3_ := n2_; clear HB; have HB := n0_; have BK259 := n1_; have GW259 := n2_; have GE259 := n3_; clear n0_ n1_ n2_ n3_; clear hb hbox hg) | ((with_reducible refine gate_callee (f := 29) rfl ?_); refine goesL_ (some 10) rfl rfl Tryz.func29 (by kernel_rfl) rfl #[] rfl argA ?_; (with_reducible refine (foolscapref09_table.calls  t260 _ A2.out).mono ?_); rintro e w4 ⟨v261, rfl, ho0, hb⟩; refine ⟨_, rfl, ?_⟩; have n0_ := Aside0.mk (Kd.R_lower ho0 (below_size (hbA))); have n1_ := Aside0.mk (blk_below (g := gb259) (o := .cells #[.string (⟨#[]⟩ : ByteArray), .int .i64 0, .int .i64 0, .slice none 0 0] 24 (0, 0)) (have bk_ := BK259.out; bkA) hb); have n2_ := Aside0.mk (below_step (hbA) hb); clear BK259; clear HB; have HO262 := n0_; have BK259 := n1_; have HB := n2_; clear n0_ n1_ n2_; (try clear hb); (try clear hb2); (try clear hk); (try clear hi); (try clear ho0)))
 go_loopg [5] k (fun kq v5 w' => ∃ (x5_1 : Int) (x260000_1 : ByteArray) (x260001_1 : Int) (x260002_1 : Int), v5 = .int .i64 x5_1 ∧ Aside0 (foolscapref09_Find.l0 kq a0 t260 x5_1 = some (r1, r2, r3, r4, r5)) ∧ Aside0 (kq ≤ k) ∧ Aside0 (Kd.R k76 76 w' w.heap.size (fun _ => True) v261 t260) ∧ Aside0 (w'.heap[gb259]? = some (.cells #[.string x260000_1, .int .i64 x260001_1, .int .i64 x260002_1, (.slice none 0 0)] 24 (0, 0))) ∧ Aside0 (Below w.heap.size w w'))
 case atStart => exact ⟨(0), ((⟨#[]⟩ : ByteArray)), (0), (0), (rflS), H', ⟨Nat.le_refl _⟩, ⟨by (with_reducible repeat (first | apply Kd.R_alloc | apply Kd.R_drewN | apply Kd.R_drew)); exact HO262.out⟩, ⟨have bk_ := BK259.out; bkA⟩, ⟨hbA⟩⟩
 case round =>
  clear H'
  try clear c1
  try clear c2
  try clear p2
  obtain ⟨x5_1, x260000_1, x260001_1, x260002_1, rfl, HA, HK1, HO_4, BK259, HB⟩ := hrel
  cases gk with
  | zero => exact absurd HA.out (by simp [foolscapref09_Find.l0])
  | succ k1 =>
   have H := HA.out
   clear HA
   simp only [foolscapref09_Find.l0] at H
   by_cases c5 : x5_1 < (t260.length : Int)
   ·rw [if_pos c5] at H
    have c5b0 : decide (x5_1 < (t260.length : Int)) = true := decide_eq_true c5
    clear c5
    by_cases c6 : 0 ≤ x5_1
    ·rw [if_pos c6] at H
     have c6b0 : decide (0 ≤ x5_1) = true := decide_eq_true c6
     clear c6
     replace H := Option.bind_eq_some_iff.mp H
     obtain ⟨t264, A70, H⟩ := H
     replace H : (foolscapref09_Find.l1 k1 a0 t260 x5_1 t264 0) = some (r1, r2, r3, r4, r5) := H
     have A7 := Aside0.mk A70
     clear A70
     have H' := Aside0.mk H
     clear H
     obtain ⟨Ao8, co8, eo8⟩ := Kd.R_slice HO_4.out
     subst eo8
     have p263 : 0 ≤ (x5_1 : Int) := of_decide_eq_true kA
     have q263 : x5_1 < (t260.length : Int) := of_decide_eq_true kA
     obtain ⟨ad263, e263, hx263_0, hx263_1, hx263_2, hx263_3⟩ := at_T76 (Kd.R_reads' HO_4.out).2.2 x5_1 p263 q263
     cases e263
     replace p263 := eq_true p263
     replace q263 := eq_true q263
     go_wp2_with (first | ((with_reducible refine gate_callee (f := 30) rfl ?_); refine goesL_ (some 22) rfl rfl Tryz.func30 (by kernel_rfl) rfl #[.string ((rd_T76 t260 x5_1).f0)] rfl argA ?_; (with_reducible refine (foolscapref09_words.calls k1 ((rd_T76 t260 x5_1).f0) t264 _ A7.out).mono ?_); rintro e w9 ⟨v265, rfl, ho0, hb⟩; refine ⟨_, rfl, ?_⟩; have n0_ := Aside0.mk (Kd.R_below (by (with_reducible repeat (first | apply Kd.R_alloc | apply Kd.R_drewN | apply Kd.R_drew)); exact HO_4.out) hb); have n1_ := Aside0.mk (Kd.R_lower ho0 (below_size (hbA))); have n2_ := Aside0.mk (blk_below (g := gb259) (o := .cells #[.string x260000_1, .int .i64 x260001_1, .int .i64 x260002_1, .slice none 0 0] 24 (0, 0)) (have bk_ := BK259.out; bkA) hb); have n3_ := Aside0.mk (below_step (hbA) hb); clear HO_4; clear BK259; clear HB; have HO_4 := n0_; have HO266 := n1_; have BK259 := n2_; have HB := n3_; clear n0_ n1_ n2_ n3_; (try clear hb); (try clear hb2); (try clear hk); (try clear hi); (try clear ho0)))
     go_loopg [7] k1 (fun kq v7 w' => ∃ (x7_2 : Int) (x260000_2 : ByteArray) (x260001_2 : Int) (x260002_2 : Int), v7 = .int .i64 x7_2 ∧ Aside0 (foolscapref09_Find.l1 kq a0 t260 x5_1 t264 x7_2 = some (r1, r2, r3, r4, r5)) ∧ Aside0 (kq ≤ k1) ∧ Aside0 (Kd.R k76 76 w' w.heap.size (fun _ => True) (.slice (some ad263) t260.length co8) t260) ∧ Aside0 (Kd.R Kd.string 9 w' w.heap.size (fun _ => True) v265 t264) ∧ Aside0 (w'.heap[gb259]? = some (.cells #[.string x260000_2, .int .i64 x260001_2, .int .i64 x260002_2, (.slice none 0 0)] 24 (0, 0))) ∧ Aside0 (Below w.heap.size w w'))
     case atStart => exact ⟨(0), (x260000_1), (x260001_1), (x260002_1), (rflS), H', ⟨Nat.le_refl _⟩, ⟨by (with_reducible repeat (first | apply Kd.R_alloc | apply Kd.R_drewN | apply Kd.R_drew)); exact HO_4.out⟩, ⟨by (with_reducible repeat (first | apply Kd.R_alloc | apply Kd.R_drewN | apply Kd.R_drew)); exact HO266.out⟩, ⟨have bk_ := BK259.out; bkA⟩, ⟨hbA⟩⟩
     case round =>
      clear H'
      try clear c1
      try clear c2
      try clear p2
      try clear q2
      try clear hx2
      try clear c3
      try clear c5
      try clear c5b0
      try clear c6
      try clear c6b0
      try clear p6
      try clear hx263_0
      try clear hx263_1
      try clear hx263_2
      try clear hx263_3
      try clear p2
      try clear p263
      try clear q263
      obtain ⟨x7_2, x260000_2, x260001_2, x260002_2, rfl, HA, HK2, HO_4, HO_6, BK259, HB⟩ := hrel
      cases gk with
      | zero => exact absurd HA.out (by simp [foolscapref09_Find.l1])
      | succ k2 =>
       have H := HA.out
       clear HA
       simp only [foolscapref09_Find.l1] at H
       by_cases c10 : x7_2 < (t264.length : Int)
       ·rw [if_pos c10] at H
        have c10b0 : decide (x7_2 < (t264.length : Int)) = true := decide_eq_true c10
        clear c10
        by_cases c11 : 0 ≤ x7_2
        ·rw [if_pos c11] at H
         have c11b0 : decide (0 ≤ x7_2) = true := decide_eq_true c11
         clear c11
         by_cases c12 : (rdOf ByteArray.empty t264 x7_2).toList = a0.toList
         ·rw [if_pos c12] at H
          have c12b0 : ((rdOf ByteArray.empty t264 x7_2).toList == a0.toList) = true := beq_iff_eq.mpr c12
          have c12b1 : ((rdOf ByteArray.empty t264 x7_2).toList != a0.toList) = false := bne_eq_false_iff_eq.mpr c12
          clear c12
          by_cases c13 : 0 ≤ x5_1
          ·rw [if_pos c13] at H
           have c13b0 : decide (0 ≤ x5_1) = true := decide_eq_true c13
           clear c13
           by_cases c14 : x5_1 < (t260.length : Int)
           ·rw [if_pos c14] at H
            have c14b0 : decide (x5_1 < (t260.length : Int)) = true := decide_eq_true c14
            clear c14
            have H' := Aside0.mk H
            clear H
            obtain ⟨Ao15, co15, eo15⟩ := Kd.R_slice HO_6.out
            subst eo15
            have p267 : 0 ≤ (x7_2 : Int) := of_decide_eq_true kA
            have q267 : x7_2 < (t264.length : Int) := of_decide_eq_true kA
            obtain ⟨ad267, e267, hx267_0⟩ := Kd.at_string (Kd.R_reads' HO_6.out).2.2 x7_2 p267 q267
            cases e267
            replace p267 := eq_true p267
            replace q267 := eq_true q267
            try go_wp2
            have n0_ := Aside0.mk (Kd.R_drew HO_4.out)
            have n1_ := Aside0.mk (Kd.R_drew HO_6.out)
            have n2_ := Aside0.mk (bqY BK259.out)
            have n3_ := Aside0.mk (bqD HB.out)
            clear HO_4
            clear HO_6
            clear BK259
            clear HB
            have HO_4 := n0_
            have HO_6 := n1_
            have BK259 := n2_
            have HB := n3_
            clear n0_ n1_ n2_ n3_
            have p268 : 0 ≤ (x5_1 : Int) := of_decide_eq_true kA
            have q268 : x5_1 < (t260.length : Int) := of_decide_eq_true kA
            obtain ⟨ad268, e268, hx268_0, hx268_1, hx268_2, hx268_3⟩ := at_T76 (Kd.R_reads' HO_4.out).2.2 x5_1 p268 q268
            obtain rfl : ad263 = ad268 := (by injection e268)
            replace p268 := eq_true p268
            replace q268 := eq_true q268
            have p269 : 0 ≤ (x5_1 : Int) := of_decide_eq_true kA
            have q269 : x5_1 < (t260.length : Int) := of_decide_eq_true kA
            obtain ⟨ad269, e269, hx269_0, hx269_1, hx269_2, hx269_3⟩ := at_T76 (Kd.R_reads' HO_4.out).2.2 x5_1 p269 q269
            obtain rfl : ad263 = ad269 := (by injection e269)
            replace p269 := eq_true p269
            replace q269 := eq_true q269
            refine start_ (n := 14) (S := fun w' => w'.cell? (ad263.add ((x5_1).toNat * 4)) = some (.string ((rd_T76 t260 x5_1).f0)) ∧ w'.cell? ⟨(ad263.add ((x5_1).toNat * 4)).block, (ad263.add ((x5_1).toNat * 4)).off + 1, none⟩ = some (.int .i64 ((rd_T76 t260 x5_1).f1)) ∧ w'.cell? ⟨(ad263.add ((x5_1).toNat * 4)).block, (ad263.add ((x5_1).toNat * 4)).off + 2, none⟩ = some (.int .i64 ((rd_T76 t260 x5_1).f2)) ∧ w'.cell? ⟨(ad263.add ((x5_1).toNat * 4)).block, (ad263.add ((x5_1).toNat * 4)).off + 3, none⟩ = some (.string ((rd_T76 t260 x5_1).f3)) ∧ w'.cell? (ad263.add ((x5_1).toNat * 4)) = some (.string ((rd_T76 t260 x5_1).f0)) ∧ w'.cell? ⟨(ad263.add ((x5_1).toNat * 4)).block, (ad263.add ((x5_1).toNat * 4)).off + 1, none⟩ = some (.int .i64 ((rd_T76 t260 x5_1).f1)) ∧ w'.cell? ⟨(ad263.add ((x5_1).toNat * 4)).block, (ad263.add ((x5_1).toNat * 4)).off + 2, none⟩ = some (.int .i64 ((rd_T76 t260 x5_1).f2)) ∧ w'.cell? ⟨(ad263.add ((x5_1).toNat * 4)).block, (ad263.add ((x5_1).toNat * 4)).off + 3, none⟩ = some (.string ((rd_T76 t260 x5_1).f3))) (ds := []) (Array.replicate 14 false) (by kernel_rfl) rfl rfl ⟨hx268_0, hx268_1, hx268_2, hx268_3, hx269_0, hx269_1, hx269_2, hx269_3⟩ (fun hHeld => ?_); refine with_tabW foolscapref09_Find.tab10 foolscapref09_Find.bits10 (fun HT_ HW_ => ?_)
            generalize wr.drew = w16 at HO_4 HO_6 BK259 HB hx268_0 hx268_1 hx268_2 hx268_3 hx269_0 hx269_1 hx269_2 hx269_3 hHeld ⊢
            refine pq 0 35 HT_ ?_; refine pq 1 36 HT_ ?_; refine pq 2 37 HT_ ?_; refine pq 3 38 HT_ ?_; refine pq 4 39 HT_ ?_; refine pq 6 41 HT_ ?_; refine pq 7 42 HT_ ?_; refine pq 8 43 HT_ ?_; refine pq 9 44 HT_ ?_
            refine take_ (i := 5) (N := some 40) (v := ?_) (a' := ?_) #[true, true, true, true, true, true, true, true, true, true, false, false, false, false] rfl rfl (take_ofW HT_.out HW_.out (by kernel_rfl)) (fun _ _ _ h => h) (Or.inl ⟨by rfl, ?_⟩) hHeld ?_ ?_
            rotate_left
            ·rintro w' ⟨s0, s1, s2, s3, s4, s5, s6, s7⟩
             go_simp
             with_reducible rfl
            rotate_left
            ·simp only [Act.put, List.setIfInBounds_toArray, List.set_cons_zero, List.set_cons_succ, i64_w, i32_w]
             rfl
            refine take_ (i := 10) (N := some 45) (v := ?_) (a' := ?_) #[true, true, true, true, true, true, true, true, true, true, true, false, false, false] rfl rfl (take_ofW HT_.out HW_.out (by kernel_rfl)) (fun _ _ _ h => h) (Or.inl ⟨by rfl, ?_⟩) hHeld ?_ ?_
            rotate_left
            ·rintro w' ⟨s0, s1, s2, s3, s4, s5, s6, s7⟩
             go_simp
             with_reducible rfl
            rotate_left
            ·simp only [Act.put, List.setIfInBounds_toArray, List.set_cons_zero, List.set_cons_succ, i64_w, i32_w]
             rfl
            refine pq 11 46 HT_ ?_
            refine one_ (i := 12) (N := some 8) #[true, true, true, true, true, true, true, true, true, true, true, true, true, false] rfl rfl (one_of HT_.out (by kernel_rfl)) (by decide) (fun K hK => ?_)
            refine box_step ?hg (N := 8) ?hd (cs := #[.string (⟨#[]⟩ : ByteArray), .int .i64 0, .int .i64 0, .slice none 0 0]) (t := 24) ?hr ?_; (case hd => rfl); (case hg => rfl); (case hr => first | (go_simp; done) | (go_simp; rfl))
            intro gb270 hg w17 hbox hb
            have HS0_ := (hb.cell (World.block_lt_of_cell? _ _ (hHeld.1))).trans (hHeld.1)
            have HS1_ := (hb.cell (World.block_lt_of_cell? _ _ (hHeld.2.1))).trans (hHeld.2.1)
            have HS2_ := (hb.cell (World.block_lt_of_cell? _ _ (hHeld.2.2.1))).trans (hHeld.2.2.1)
            have HS3_ := (hb.cell (World.block_lt_of_cell? _ _ (hHeld.2.2.2.1))).trans (hHeld.2.2.2.1)
            have HS4_ := (hb.cell (World.block_lt_of_cell? _ _ (hHeld.2.2.2.2.1))).trans (hHeld.2.2.2.2.1)
            have HS5_ := (hb.cell (World.block_lt_of_cell? _ _ (hHeld.2.2.2.2.2.1))).trans (hHeld.2.2.2.2.2.1)
            have HS6_ := (hb.cell (World.block_lt_of_cell? _ _ (hHeld.2.2.2.2.2.2.1))).trans (hHeld.2.2.2.2.2.2.1)
            have HS7_ := (hb.cell (World.block_lt_of_cell? _ _ (hHeld.2.2.2.2.2.2.2))).trans (hHeld.2.2.2.2.2.2.2)
            have n0_ := Aside0.mk (Kd.R_below (by (with_reducible repeat (first | apply Kd.R_alloc | apply Kd.R_drewN | apply Kd.R_drew)); exact HO_4.out) hb)
            have n1_ := Aside0.mk (Kd.R_below (by (with_reducible repeat (first | apply Kd.R_alloc | apply Kd.R_drewN | apply Kd.R_drew)); exact HO_6.out) hb)
            have n2_ := Aside0.mk (blk_below (g := gb259) (o := .cells #[.string x260000_2, .int .i64 x260001_2, .int .i64 x260002_2, .slice none 0 0] 24 (0, 0)) (have bk_ := BK259.out; bkA) hb)
            have n3_ := Aside0.mk (below_step (hbA) hb)
            have n4_ := Aside0.mk (hbox)
            have n5_ := Aside0.mk ((by rw [hg]; exact (below_size (hbA)) : w.heap.size ≤ gb270))
            have n6_ := Aside0.mk ((by rw [hg]; exact (below_size (hbA)) : w.heap.size ≤ gb270))
            have n7_ := Aside0.mk ((by rw [hg]; exact Nat.ne_of_lt (blk_lt (g := gb259) (o := .cells #[.string x260000_2, .int .i64 x260001_2, .int .i64 x260002_2, .slice none 0 0] 24 (0, 0)) (have bk_ := BK259.out; bkA)) : gb259 ≠ gb270))
            have n8_ := Aside0.mk ((by rw [hg]; exact Nat.ne_of_gt (blk_lt (g := gb259) (o := .cells #[.string x260000_2, .int .i64 x260001_2, .int .i64 x260002_2, .slice none 0 0] 24 (0, 0)) (have bk_ := BK259.out; bkA)) : gb270 ≠ gb259))
            clear HO_4
            clear HO_6
            clear BK259
            clear HB
            have HO_4 := n0_
            have HO_6 := n1_
            have BK259 := n2_
            have HB := n3_
            have BK270 := n4_
            have GW270 := n5_
            have GE270 := n6_
            have NB259_270 := n7_
            have NB270_259 := n8_
            clear n0_ n1_ n2_ n3_ n4_ n5_ n6_ n7_ n8_
            clear hb hbox hg
            refine hK.out _ _ ⟨HS0_, HS1_, HS2_, HS3_, HS4_, HS5_, HS6_, HS7_⟩ (fun hHeld => ?_)
            clear hK K
            refine norm_ (a' := ?_) ?_ ?_
            rotate_left
            ·show Act.put _ (some 8) _ = _
             simp only [Act.put, List.setIfInBounds_toArray, List.set_cons_zero, List.set_cons_succ, i64_w, i32_w]
             rfl
            refine one_ (i := 13) (N := none) #[true, true, true, true, true, true, true, true, true, true, true, true, true, true] rfl rfl (one_of HT_.out (by kernel_rfl)) (by decide) (fun K hK => ?_)
            have hs18 : w17.cell? ⟨gb270, 0, none⟩ = some (.string (⟨#[]⟩ : ByteArray)) := (blk_cell BK270.out 0).trans rfl
            have hfs18 := blk_frozen BK270.out 0
            have hns18_0 := NB259_270.out
            have hms18_0 := NB270_259.out
            have hs19 : w17.cell? ⟨gb270, 1, none⟩ = some (.int .i64 0) := (blk_cell BK270.out 1).trans rfl
            have hfs19 := blk_frozen BK270.out 1
            have hns19_0 := NB259_270.out
            have hms19_0 := NB270_259.out
            have hs20 : w17.cell? ⟨gb270, 2, none⟩ = some (.int .i64 0) := (blk_cell BK270.out 2).trans rfl
            have hfs20 := blk_frozen BK270.out 2
            have hns20_0 := NB259_270.out
            have hms20_0 := NB270_259.out
            have hs21 : w17.cell? ⟨gb270, 3, none⟩ = some (.slice none 0 0) := (blk_cell BK270.out 3).trans rfl
            have hfs21 := blk_frozen BK270.out 3
            have hns21_0 := NB259_270.out
            have hms21_0 := NB270_259.out
            refine skip_ (w1 := ?_) (by rfl) rfl ?_ ?_
            rotate_left
            ·go_simp
             rfl
            refine hK.out _ _ ⟨((cell_far (p := ⟨gb270, _, none⟩) (by first | exact Kd.own_blk (Kd.R_ne HO_4.out BK270.out (by decide)) | (rw [add_block]; exact Kd.own_blk (Kd.R_ne HO_4.out BK270.out (by decide))) | (show (Addr.add _ _).block ≠ _; rw [add_block]; exact Kd.own_blk (Kd.R_ne HO_4.out BK270.out (by decide))) | (dsimp only; exact Kd.own_blk (Kd.R_ne HO_4.out BK270.out (by decide)))) _).trans (((cell_far (p := ⟨gb270, _, none⟩) (by first | exact Kd.own_blk (Kd.R_ne HO_4.out BK270.out (by decide)) | (rw [add_block]; exact Kd.own_blk (Kd.R_ne HO_4.out BK270.out (by decide))) | (show (Addr.add _ _).block ≠ _; rw [add_block]; exact Kd.own_blk (Kd.R_ne HO_4.out BK270.out (by decide))) | (dsimp only; exact Kd.own_blk (Kd.R_ne HO_4.out BK270.out (by decide)))) _).trans (((cell_far (p := ⟨gb270, _, none⟩) (by first | exact Kd.own_blk (Kd.R_ne HO_4.out BK270.out (by decide)) | (rw [add_block]; exact Kd.own_blk (Kd.R_ne HO_4.out BK270.out (by decide))) | (show (Addr.add _ _).block ≠ _; rw [add_block]; exact Kd.own_blk (Kd.R_ne HO_4.out BK270.out (by decide))) | (dsimp only; exact Kd.own_blk (Kd.R_ne HO_4.out BK270.out (by decide)))) _).trans (((cell_far (p := ⟨gb270, _, none⟩) (by first | exact Kd.own_blk (Kd.R_ne HO_4.out BK270.out (by decide)) | (rw [add_block]; exact Kd.own_blk (Kd.R_ne HO_4.out BK270.out (by decide))) | (show (Addr.add _ _).block ≠ _; rw [add_block]; exact Kd.own_blk (Kd.R_ne HO_4.out BK270.out (by decide))) | (dsimp only; exact Kd.own_blk (Kd.R_ne HO_4.out BK270.out (by decide)))) _).trans (hHeld.1)))))))), ((cell_far (p := ⟨gb270, _, none⟩) (by first | exact Kd.own_blk (Kd.R_ne HO_4.out BK270.out (by decide)) | (rw [add_block]; exact Kd.own_blk (Kd.R_ne HO_4.out BK270.out (by decide))) | (show (Addr.add _ _).block ≠ _; rw [add_block]; exact Kd.own_blk (Kd.R_ne HO_4.out BK270.out (by decide))) | (dsimp only; exact Kd.own_blk (Kd.R_ne HO_4.out BK270.out (by decide)))) _).trans (((cell_far (p := ⟨gb270, _, none⟩) (by first | exact Kd.own_blk (Kd.R_ne HO_4.out BK270.out (by decide)) | (rw [add_block]; exact Kd.own_blk (Kd.R_ne HO_4.out BK270.out (by decide))) | (show (Addr.add _ _).block ≠ _; rw [add_block]; exact Kd.own_blk (Kd.R_ne HO_4.out BK270.out (by decide))) | (dsimp only; exact Kd.own_blk (Kd.R_ne HO_4.out BK270.out (by decide)))) _).trans (((cell_far (p := ⟨gb270, _, none⟩) (by first | exact Kd.own_blk (Kd.R_ne HO_4.out BK270.out (by decide)) | (rw [add_block]; exact Kd.own_blk (Kd.R_ne HO_4.out BK270.out (by decide))) | (show (Addr.add _ _).block ≠ _; rw [add_block]; exact Kd.own_blk (Kd.R_ne HO_4.out BK270.out (by decide))) | (dsimp only; exact Kd.own_blk (Kd.R_ne HO_4.out BK270.out (by decide)))) _).trans (((cell_far (p := ⟨gb270, _, none⟩) (by first | exact Kd.own_blk (Kd.R_ne HO_4.out BK270.out (by decide)) | (rw [add_block]; exact Kd.own_blk (Kd.R_ne HO_4.out BK270.out (by decide))) | (show (Addr.add _ _).block ≠ _; rw [add_block]; exact Kd.own_blk (Kd.R_ne HO_4.out BK270.out (by decide))) | (dsimp only; exact Kd.own_blk (Kd.R_ne HO_4.out BK270.out (by decide)))) _).trans (hHeld.2.1)))))))), ((cell_far (p := ⟨gb270, _, none⟩) (by first | exact Kd.own_blk (Kd.R_ne HO_4.out BK270.out (by decide)) | (rw [add_block]; exact Kd.own_blk (Kd.R_ne HO_4.out BK270.out (by decide))) | (show (Addr.add _ _).block ≠ _; rw [add_block]; exact Kd.own_blk (Kd.R_ne HO_4.out BK270.out (by decide))) | (dsimp only; exact Kd.own_blk (Kd.R_ne HO_4.out BK270.out (by decide)))) _).trans (((cell_far (p := ⟨gb270, _, none⟩) (by first | exact Kd.own_blk (Kd.R_ne HO_4.out BK270.out (by decide)) | (rw [add_block]; exact Kd.own_blk (Kd.R_ne HO_4.out BK270.out (by decide))) | (show (Addr.add _ _).block ≠ _; rw [add_block]; exact Kd.own_blk (Kd.R_ne HO_4.out BK270.out (by decide))) | (dsimp only; exact Kd.own_blk (Kd.R_ne HO_4.out BK270.out (by decide)))) _).trans (((cell_far (p := ⟨gb270, _, none⟩) (by first | exact Kd.own_blk (Kd.R_ne HO_4.out BK270.out (by decide)) | (rw [add_block]; exact Kd.own_blk (Kd.R_ne HO_4.out BK270.out (by decide))) | (show (Addr.add _ _).block ≠ _; rw [add_block]; exact Kd.own_blk (Kd.R_ne HO_4.out BK270.out (by decide))) | (dsimp only; exact Kd.own_blk (Kd.R_ne HO_4.out BK270.out (by decide)))) _).trans (((cell_far (p := ⟨gb270, _, none⟩) (by first | exact Kd.own_blk (Kd.R_ne HO_4.out BK270.out (by decide)) | (rw [add_block]; exact Kd.own_blk (Kd.R_ne HO_4.out BK270.out (by decide))) | (show (Addr.add _ _).block ≠ _; rw [add_block]; exact Kd.own_blk (Kd.R_ne HO_4.out BK270.out (by decide))) | (dsimp only; exact Kd.own_blk (Kd.R_ne HO_4.out BK270.out (by decide)))) _).trans (hHeld.2.2.1)))))))), ((cell_far (p := ⟨gb270, _, none⟩) (by first | exact Kd.own_blk (Kd.R_ne HO_4.out BK270.out (by decide)) | (rw [add_block]; exact Kd.own_blk (Kd.R_ne HO_4.out BK270.out (by decide))) | (show (Addr.add _ _).block ≠ _; rw [add_block]; exact Kd.own_blk (Kd.R_ne HO_4.out BK270.out (by decide))) | (dsimp only; exact Kd.own_blk (Kd.R_ne HO_4.out BK270.out (by decide)))) _).trans (((cell_far (p := ⟨gb270, _, none⟩) (by first | exact Kd.own_blk (Kd.R_ne HO_4.out BK270.out (by decide)) | (rw [add_block]; exact Kd.own_blk (Kd.R_ne HO_4.out BK270.out (by decide))) | (show (Addr.add _ _).block ≠ _; rw [add_block]; exact Kd.own_blk (Kd.R_ne HO_4.out BK270.out (by decide))) | (dsimp only; exact Kd.own_blk (Kd.R_ne HO_4.out BK270.out (by decide)))) _).trans (((cell_far (p := ⟨gb270, _, none⟩) (by first | exact Kd.own_blk (Kd.R_ne HO_4.out BK270.out (by decide)) | (rw [add_block]; exact Kd.own_blk (Kd.R_ne HO_4.out BK270.out (by decide))) | (show (Addr.add _ _).block ≠ _; rw [add_block]; exact Kd.own_blk (Kd.R_ne HO_4.out BK270.out (by decide))) | (dsimp only; exact Kd.own_blk (Kd.R_ne HO_4.out BK270.out (by decide)))) _).trans (((cell_far (p := ⟨gb270, _, none⟩) (by first | exact Kd.own_blk (Kd.R_ne HO_4.out BK270.out (by decide)) | (rw [add_block]; exact Kd.own_blk (Kd.R_ne HO_4.out BK270.out (by decide))) | (show (Addr.add _ _).block ≠ _; rw [add_block]; exact Kd.own_blk (Kd.R_ne HO_4.out BK270.out (by decide))) | (dsimp only; exact Kd.own_blk (Kd.R_ne HO_4.out BK270.out (by decide)))) _).trans (hHeld.2.2.2.1)))))))), ((cell_far (p := ⟨gb270, _, none⟩) (by first | exact Kd.own_blk (Kd.R_ne HO_4.out BK270.out (by decide)) | (rw [add_block]; exact Kd.own_blk (Kd.R_ne HO_4.out BK270.out (by decide))) | (show (Addr.add _ _).block ≠ _; rw [add_block]; exact Kd.own_blk (Kd.R_ne HO_4.out BK270.out (by decide))) | (dsimp only; exact Kd.own_blk (Kd.R_ne HO_4.out BK270.out (by decide)))) _).trans (((cell_far (p := ⟨gb270, _, none⟩) (by first | exact Kd.own_blk (Kd.R_ne HO_4.out BK270.out (by decide)) | (rw [add_block]; exact Kd.own_blk (Kd.R_ne HO_4.out BK270.out (by decide))) | (show (Addr.add _ _).block ≠ _; rw [add_block]; exact Kd.own_blk (Kd.R_ne HO_4.out BK270.out (by decide))) | (dsimp only; exact Kd.own_blk (Kd.R_ne HO_4.out BK270.out (by decide)))) _).trans (((cell_far (p := ⟨gb270, _, none⟩) (by first | exact Kd.own_blk (Kd.R_ne HO_4.out BK270.out (by decide)) | (rw [add_block]; exact Kd.own_blk (Kd.R_ne HO_4.out BK270.out (by decide))) | (show (Addr.add _ _).block ≠ _; rw [add_block]; exact Kd.own_blk (Kd.R_ne HO_4.out BK270.out (by decide))) | (dsimp only; exact Kd.own_blk (Kd.R_ne HO_4.out BK270.out (by decide)))) _).trans (((cell_far (p := ⟨gb270, _, none⟩) (by first | exact Kd.own_blk (Kd.R_ne HO_4.out BK270.out (by decide)) | (rw [add_block]; exact Kd.own_blk (Kd.R_ne HO_4.out BK270.out (by decide))) | (show (Addr.add _ _).block ≠ _; rw [add_block]; exact Kd.own_blk (Kd.R_ne HO_4.out BK270.out (by decide))) | (dsimp only; exact Kd.own_blk (Kd.R_ne HO_4.out BK270.out (by decide)))) _).trans (hHeld.2.2.2.2.1)))))))), ((cell_far (p := ⟨gb270, _, none⟩) (by first | exact Kd.own_blk (Kd.R_ne HO_4.out BK270.out (by decide)) | (rw [add_block]; exact Kd.own_blk (Kd.R_ne HO_4.out BK270.out (by decide))) | (show (Addr.add _ _).block ≠ _; rw [add_block]; exact Kd.own_blk (Kd.R_ne HO_4.out BK270.out (by decide))) | (dsimp only; exact Kd.own_blk (Kd.R_ne HO_4.out BK270.out (by decide)))) _).trans (((cell_far (p := ⟨gb270, _, none⟩) (by first | exact Kd.own_blk (Kd.R_ne HO_4.out BK270.out (by decide)) | (rw [add_block]; exact Kd.own_blk (Kd.R_ne HO_4.out BK270.out (by decide))) | (show (Addr.add _ _).block ≠ _; rw [add_block]; exact Kd.own_blk (Kd.R_ne HO_4.out BK270.out (by decide))) | (dsimp only; exact Kd.own_blk (Kd.R_ne HO_4.out BK270.out (by decide)))) _).trans (((cell_far (p := ⟨gb270, _, none⟩) (by first | exact Kd.own_blk (Kd.R_ne HO_4.out BK270.out (by decide)) | (rw [add_block]; exact Kd.own_blk (Kd.R_ne HO_4.out BK270.out (by decide))) | (show (Addr.add _ _).block ≠ _; rw [add_block]; exact Kd.own_blk (Kd.R_ne HO_4.out BK270.out (by decide))) | (dsimp only; exact Kd.own_blk (Kd.R_ne HO_4.out BK270.out (by decide)))) _).trans (((cell_far (p := ⟨gb270, _, none⟩) (by first | exact Kd.own_blk (Kd.R_ne HO_4.out BK270.out (by decide)) | (rw [add_block]; exact Kd.own_blk (Kd.R_ne HO_4.out BK270.out (by decide))) | (show (Addr.add _ _).block ≠ _; rw [add_block]; exact Kd.own_blk (Kd.R_ne HO_4.out BK270.out (by decide))) | (dsimp only; exact Kd.own_blk (Kd.R_ne HO_4.out BK270.out (by decide)))) _).trans (hHeld.2.2.2.2.2.1)))))))), ((cell_far (p := ⟨gb270, _, none⟩) (by first | exact Kd.own_blk (Kd.R_ne HO_4.out BK270.out (by decide)) | (rw [add_block]; exact Kd.own_blk (Kd.R_ne HO_4.out BK270.out (by decide))) | (show (Addr.add _ _).block ≠ _; rw [add_block]; exact Kd.own_blk (Kd.R_ne HO_4.out BK270.out (by decide))) | (dsimp only; exact Kd.own_blk (Kd.R_ne HO_4.out BK270.out (by decide)))) _).trans (((cell_far (p := ⟨gb270, _, none⟩) (by first | exact Kd.own_blk (Kd.R_ne HO_4.out BK270.out (by decide)) | (rw [add_block]; exact Kd.own_blk (Kd.R_ne HO_4.out BK270.out (by decide))) | (show (Addr.add _ _).block ≠ _; rw [add_block]; exact Kd.own_blk (Kd.R_ne HO_4.out BK270.out (by decide))) | (dsimp only; exact Kd.own_blk (Kd.R_ne HO_4.out BK270.out (by decide)))) _).trans (((cell_far (p := ⟨gb270, _, none⟩) (by first | exact Kd.own_blk (Kd.R_ne HO_4.out BK270.out (by decide)) | (rw [add_block]; exact Kd.own_blk (Kd.R_ne HO_4.out BK270.out (by decide))) | (show (Addr.add _ _).block ≠ _; rw [add_block]; exact Kd.own_blk (Kd.R_ne HO_4.out BK270.out (by decide))) | (dsimp only; exact Kd.own_blk (Kd.R_ne HO_4.out BK270.out (by decide)))) _).trans (((cell_far (p := ⟨gb270, _, none⟩) (by first | exact Kd.own_blk (Kd.R_ne HO_4.out BK270.out (by decide)) | (rw [add_block]; exact Kd.own_blk (Kd.R_ne HO_4.out BK270.out (by decide))) | (show (Addr.add _ _).block ≠ _; rw [add_block]; exact Kd.own_blk (Kd.R_ne HO_4.out BK270.out (by decide))) | (dsimp only; exact Kd.own_blk (Kd.R_ne HO_4.out BK270.out (by decide)))) _).trans (hHeld.2.2.2.2.2.2.1)))))))), ((cell_far (p := ⟨gb270, _, none⟩) (by first | exact Kd.own_blk (Kd.R_ne HO_4.out BK270.out (by decide)) | (rw [add_block]; exact Kd.own_blk (Kd.R_ne HO_4.out BK270.out (by decide))) | (show (Addr.add _ _).block ≠ _; rw [add_block]; exact Kd.own_blk (Kd.R_ne HO_4.out BK270.out (by decide))) | (dsimp only; exact Kd.own_blk (Kd.R_ne HO_4.out BK270.out (by decide)))) _).trans (((cell_far (p := ⟨gb270, _, none⟩) (by first | exact Kd.own_blk (Kd.R_ne HO_4.out BK270.out (by decide)) | (rw [add_block]; exact Kd.own_blk (Kd.R_ne HO_4.out BK270.out (by decide))) | (show (Addr.add _ _).block ≠ _; rw [add_block]; exact Kd.own_blk (Kd.R_ne HO_4.out BK270.out (by decide))) | (dsimp only; exact Kd.own_blk (Kd.R_ne HO_4.out BK270.out (by decide)))) _).trans (((cell_far (p := ⟨gb270, _, none⟩) (by first | exact Kd.own_blk (Kd.R_ne HO_4.out BK270.out (by decide)) | (rw [add_block]; exact Kd.own_blk (Kd.R_ne HO_4.out BK270.out (by decide))) | (show (Addr.add _ _).block ≠ _; rw [add_block]; exact Kd.own_blk (Kd.R_ne HO_4.out BK270.out (by decide))) | (dsimp only; exact Kd.own_blk (Kd.R_ne HO_4.out BK270.out (by decide)))) _).trans (((cell_far (p := ⟨gb270, _, none⟩) (by first | exact Kd.own_blk (Kd.R_ne HO_4.out BK270.out (by decide)) | (rw [add_block]; exact Kd.own_blk (Kd.R_ne HO_4.out BK270.out (by decide))) | (show (Addr.add _ _).block ≠ _; rw [add_block]; exact Kd.own_blk (Kd.R_ne HO_4.out BK270.out (by decide))) | (dsimp only; exact Kd.own_blk (Kd.R_ne HO_4.out BK270.out (by decide)))) _).trans (hHeld.2.2.2.2.2.2.2))))))))⟩ (fun hHeld => ?_)
            clear hK K
            refine done_ (done_of HT_.out (by kernel_rfl)) ?_
            try go_wp2
            go_loopg [9] k2 (fun kq v9 w' => ∃ (x9_3 : Int) (x271003_3 : List Int) (u271003 : Value), v9 = .int .i64 x9_3 ∧ Aside0 (foolscapref09_Find.l2 kq t260 x5_1 x9_3 a0 ((rd_T76 t260 x5_1).f1) ((rd_T76 t260 x5_1).f2) x271003_3 = some (r1, r2, r3, r4, r5)) ∧ Aside0 (kq ≤ k2) ∧ Aside0 (Kd.R k76 76 w' w.heap.size (fun _ => True) (.slice (some ad263) t260.length co8) t260) ∧ Aside0 (Kd.R (Kd.int .i64) 62 w' w.heap.size (fun _ => True) u271003 x271003_3) ∧ Aside0 (w'.heap[gb259]? = some (.cells #[.string x260000_2, .int .i64 x260001_2, .int .i64 x260002_2, (.slice none 0 0)] 24 (0, 0))) ∧ Aside0 (w'.heap[gb270]? = some (.cells #[.string a0, .int .i64 ((rd_T76 t260 x5_1).f1), .int .i64 ((rd_T76 t260 x5_1).f2), u271003] 24 (0, 0))) ∧ Aside0 (Below w.heap.size w w'))
            case atStart => exact ⟨(0), (([] : List Int)), (.slice none 0 0), (rflS), H', ⟨Nat.le_refl _⟩, ⟨by (with_reducible repeat (first | apply Kd.R_alloc | apply Kd.R_drewN | apply Kd.R_drew)); exact Kd.R_mono (Kd.R_far (p := ⟨gb270, 3, none⟩) (Kd.R_far (p := ⟨gb270, 2, none⟩) (Kd.R_far (p := ⟨gb270, 1, none⟩) (Kd.R_far (p := ⟨gb270, 0, none⟩) (Kd.R_types HO_4.out BK270.out (by decide)) (fun _ hk => hk.2) (.string a0)) (fun _ hk => hk.2) (.int .i64 ((rd_T76 t260 x5_1).f1))) (fun _ hk => hk.2) (.int .i64 ((rd_T76 t260 x5_1).f2))) (fun _ hk => hk.2) (.slice none 0 0)) (fun _ hk => trivial)⟩, ⟨by first | exact Kd.R_nil _ _ _ _ _ | exact Kd.N_nil _ _ _ _ _ | exact Kd.V_nil _ _ _ _ _ | exact Kd.Q_nil _ _ _ _ _ | exact Kd.S_nil _ _ _ _ _⟩, ⟨by (with_reducible repeat (first | refine bqZ ?_ _ | refine bqY ?_ | refine bqX ?_ _)); refine blk_far ?_ NB259_270.out _; (with_reducible repeat (first | refine bqZ ?_ _ | refine bqY ?_ | refine bqX ?_ _)); refine blk_far ?_ NB259_270.out _; (with_reducible repeat (first | refine bqZ ?_ _ | refine bqY ?_ | refine bqX ?_ _)); refine blk_far ?_ NB259_270.out _; (with_reducible repeat (first | refine bqZ ?_ _ | refine bqY ?_ | refine bqX ?_ _)); refine blk_far ?_ NB259_270.out _; exact (have bk_ := BK259.out; bkA)⟩, ⟨by (with_reducible repeat (first | refine bqZ ?_ _ | refine bqY ?_ | refine bqX ?_ _)); refine put4 (.string (⟨#[]⟩ : ByteArray)) (.int .i64 0) (.int .i64 0) (.slice none 0 0) ?_; exact (have bk_ := BK270.out; bkA)⟩, ⟨hbA⟩⟩
            case round =>
             clear H'
             try clear c1
             try clear c2
             try clear p2
             try clear q2
             try clear hx2
             try clear c3
             try clear c5
             try clear c5b0
             try clear c6
             try clear c6b0
             try clear p6
             try clear c10
             try clear c10b0
             try clear c11
             try clear c11b0
             try clear c12
             try clear c12b0
             try clear c12b1
             try clear c13
             try clear c13b0
             try clear c14
             try clear c14b0
             try clear hx263_0
             try clear hx263_1
             try clear hx263_2
             try clear hx263_3
             try clear hx267_0
             try clear hx268_0
             try clear hx268_1
             try clear hx268_2
             try clear hx268_3
             try clear hx269_0
             try clear hx269_1
             try clear hx269_2
             try clear hx269_3
             try clear p2
             try clear p263
             try clear p267
             try clear p268
             try clear p269
             try clear p6
             try clear q2
             try clear q263
             try clear q267
             try clear q268
             try clear q269
             obtain ⟨x9_3, x271003_3, u271003, rfl, HA, HK3, HO_4, HO_271003, BK259, BK270, HB⟩ := hrel
             cases gk with
             | zero => exact absurd HA.out (by simp [foolscapref09_Find.l2])
             | succ k3 =>
              have H := HA.out
              clear HA
              simp only [foolscapref09_Find.l2] at H
              by_cases c22 : 0 ≤ x5_1
              ·rw [if_pos c22] at H
               have c22b0 : decide (0 ≤ x5_1) = true := decide_eq_true c22
               clear c22
               by_cases c23 : x5_1 < (t260.length : Int)
               ·rw [if_pos c23] at H
                have c23b0 : decide (x5_1 < (t260.length : Int)) = true := decide_eq_true c23
                clear c23
                by_cases c24 : x9_3 < (((rd_T76 t260 x5_1).f3).size : Int)
                ·rw [if_pos c24] at H
                 have c24b0 : decide (x9_3 < (((rd_T76 t260 x5_1).f3).size : Int)) = true := decide_eq_true c24
                 clear c24
                 by_cases c25 : 0 ≤ x9_3
                 ·rw [if_pos c25] at H
                  have c25b0 : decide (0 ≤ x9_3) = true := decide_eq_true c25
                  clear c25
                  replace H := Option.bind_eq_some_iff.mp H
                  obtain ⟨t273, A270, H⟩ := H
                  replace H : (if x271003_3.length < 17592186044416 then (foolscapref09_Find.l2 k3 t260 x5_1 (wrap64 (x9_3 + 1)) a0 ((rd_T76 t260 x5_1).f1) ((rd_T76 t260 x5_1).f2) (x271003_3 ++ [t273])) else (none)) = some (r1, r2, r3, r4, r5) := H
                  have A27 := Aside0.mk A270
                  clear A270
                  by_cases c28 : x271003_3.length < 17592186044416
                  ·rw [if_pos c28] at H
                   have LMc28 := Aside0.mk c28
                   clear c28
                   obtain ⟨y274, hy274⟩ : ∃ y_ : List Int, y_ = (x271003_3 ++ [t273]) := ⟨_, rfl⟩
                   replace H : (foolscapref09_Find.l2 k3 t260 x5_1 (wrap64 (x9_3 + 1)) a0 ((rd_T76 t260 x5_1).f1) ((rd_T76 t260 x5_1).f2) y274) = some (r1, r2, r3, r4, r5) := by first | (rw [hy274]; with_reducible exact H) | (have H2_ := (Option.bind_some _ _).symm.trans H; rw [hy274]; with_reducible exact H2_) | (have H2_ := (Option.bind_some _ _).symm.trans H; with_reducible exact H2_) | with_reducible exact H | (rw [hy274]; exact H) | exact H
                   have Ny274 := Aside0.mk hy274
                   clear hy274
                   have H' := Aside0.mk H
                   clear H
                   have p271 : 0 ≤ (x5_1 : Int) := of_decide_eq_true kA
                   have q271 : x5_1 < (t260.length : Int) := of_decide_eq_true kA
                   obtain ⟨ad271, e271, hx271_0, hx271_1, hx271_2, hx271_3⟩ := at_T76 (Kd.R_reads' HO_4.out).2.2 x5_1 p271 q271
                   obtain rfl : ad263 = ad271 := (by injection e271)
                   replace p271 := eq_true p271
                   replace q271 := eq_true q271
                   try go_wp2
                   have n0_ := Aside0.mk (Kd.R_drew HO_4.out)
                   have n1_ := Aside0.mk (Kd.R_drew HO_271003.out)
                   have n2_ := Aside0.mk (bqY BK259.out)
                   have n3_ := Aside0.mk (bqY BK270.out)
                   have n4_ := Aside0.mk (bqD HB.out)
                   clear HO_4
                   clear HO_271003
                   clear BK259
                   clear BK270
                   clear HB
                   have HO_4 := n0_
                   have HO_271003 := n1_
                   have BK259 := n2_
                   have BK270 := n3_
                   have HB := n4_
                   clear n0_ n1_ n2_ n3_ n4_
                   have p272 : 0 ≤ (x5_1 : Int) := of_decide_eq_true kA
                   have q272 : x5_1 < (t260.length : Int) := of_decide_eq_true kA
                   obtain ⟨ad272, e272, hx272_0, hx272_1, hx272_2, hx272_3⟩ := at_T76 (Kd.R_reads' HO_4.out).2.2 x5_1 p272 q272
                   obtain rfl : ad263 = ad272 := (by injection e272)
                   replace p272 := eq_true p272
                   replace q272 := eq_true q272
                   have p26 : 0 ≤ (x9_3 : Int) := of_decide_eq_true kA
                   have q26 : x9_3 < (((rd_T76 t260 x5_1).f3).size : Int) := of_decide_eq_true kA
                   have hx26 := bt_at ((rd_T76 t260 x5_1).f3) x9_3
                   replace p26 := eq_true p26
                   replace q26 := eq_true q26
                   refine start_ (n := 14) (S := fun w' => w'.cell? ⟨gb270, 0, none⟩ = some (.string a0) ∧ w'.cell? ⟨gb270, 1, none⟩ = some (.int .i64 ((rd_T76 t260 x5_1).f1)) ∧ w'.cell? ⟨gb270, 2, none⟩ = some (.int .i64 ((rd_T76 t260 x5_1).f2)) ∧ w'.cell? ⟨gb270, 3, none⟩ = some (u271003) ∧ w'.cell? (ad263.add ((x5_1).toNat * 4)) = some (.string ((rd_T76 t260 x5_1).f0)) ∧ w'.cell? ⟨(ad263.add ((x5_1).toNat * 4)).block, (ad263.add ((x5_1).toNat * 4)).off + 1, none⟩ = some (.int .i64 ((rd_T76 t260 x5_1).f1)) ∧ w'.cell? ⟨(ad263.add ((x5_1).toNat * 4)).block, (ad263.add ((x5_1).toNat * 4)).off + 2, none⟩ = some (.int .i64 ((rd_T76 t260 x5_1).f2)) ∧ w'.cell? ⟨(ad263.add ((x5_1).toNat * 4)).block, (ad263.add ((x5_1).toNat * 4)).off + 3, none⟩ = some (.string ((rd_T76 t260 x5_1).f3))) (ds := [11, 13]) (Array.replicate 14 false) (by kernel_rfl) rfl rfl ⟨(blk_cell BK270.out 0).trans rfl, (blk_cell BK270.out 1).trans rfl, (blk_cell BK270.out 2).trans rfl, (blk_cell BK270.out 3).trans rfl, hx272_0, hx272_1, hx272_2, hx272_3⟩ (fun hHeld => ?_); refine with_tabW foolscapref09_Find.tab14 foolscapref09_Find.bits14 (fun HT_ HW_ => ?_)
                   generalize wr.drew = w29 at HO_4 HO_271003 BK259 BK270 HB hx272_0 hx272_1 hx272_2 hx272_3 hHeld ⊢
                   refine pq 0 57 HT_ ?_; refine pq 2 59 HT_ ?_; refine pq 3 60 HT_ ?_; refine pq 4 61 HT_ ?_; refine pq 5 62 HT_ ?_; refine pq 7 64 HT_ ?_
                   refine take_ (i := 1) (N := some 58) (v := ?_) (a' := ?_) #[true, true, true, true, true, true, false, true, false, false, false, false, false, false] rfl rfl (take_ofW HT_.out HW_.out (by kernel_rfl)) (fun _ _ _ h => h) (Or.inl ⟨by rfl, ?_⟩) hHeld ?_ ?_
                   rotate_left
                   ·rintro w' ⟨s0, s1, s2, s3, s4, s5, s6, s7⟩
                    go_simp
                    with_reducible rfl
                   rotate_left
                   ·simp only [Act.put, List.setIfInBounds_toArray, List.set_cons_zero, List.set_cons_succ, i64_w, i32_w]
                    rfl
                   refine take_ (i := 6) (N := some 63) (v := ?_) (a' := ?_) #[true, true, true, true, true, true, true, true, false, false, false, false, false, false] rfl rfl (take_ofW HT_.out HW_.out (by kernel_rfl)) (fun _ _ _ h => h) (Or.inl ⟨by rfl, ?_⟩) hHeld ?_ ?_
                   rotate_left
                   ·rintro w' ⟨s0, s1, s2, s3, s4, s5, s6, s7⟩
                    go_simp
                    with_reducible rfl
                   rotate_left
                   ·simp only [Act.put, List.setIfInBounds_toArray, List.set_cons_zero, List.set_cons_succ, i64_w, i32_w]
                    rfl
                   refine take_ (i := 8) (N := some 65) (v := ?_) (a' := ?_) #[true, true, true, true, true, true, true, true, true, false, false, false, false, false] rfl rfl (take_ofW HT_.out HW_.out (by kernel_rfl)) (fun _ _ _ h => h) (Or.inl ⟨by rfl, ?_⟩) hHeld ?_ ?_
                   rotate_left
                   ·rintro w' ⟨s0, s1, s2, s3, s4, s5, s6, s7⟩
                    go_simp
                    with_reducible rfl
                   rotate_left
                   ·simp only [Act.put, List.setIfInBounds_toArray, List.set_cons_zero, List.set_cons_succ, i64_w, i32_w]
                    rfl
                   refine one_ (i := 9) (N := some 66) #[true, true, true, true, true, true, true, true, true, true, false, false, false, false] rfl rfl (one_of HT_.out (by kernel_rfl)) (by decide) (fun K hK => ?_)
                   refine goes_ Tryz.func31 (by kernel_rfl) rfl #[.int .u8 (bt ((rd_T76 t260 x5_1).f3) x9_3)] (by rfl) rfl rfl argA ?_
                   with_reducible refine (foolscapref09_want.calls (bt ((rd_T76 t260 x5_1).f3) x9_3) t273 _ A27.out).mono ?_
                   rintro e w' ⟨rfl, ⟨nd, rfl⟩⟩
                   refine ⟨_, rfl, ?_⟩
                   refine hK.out _ _ ⟨(blk_cell BK270.out 0).trans rfl, (blk_cell BK270.out 1).trans rfl, (blk_cell BK270.out 2).trans rfl, (blk_cell BK270.out 3).trans rfl, hHeld.2.2.2.2.1, hHeld.2.2.2.2.2.1, hHeld.2.2.2.2.2.2.1, hHeld.2.2.2.2.2.2.2⟩ (fun hHeld => ?_)
                   clear hK K
                   refine norm_ (a' := ?_) ?_ ?_
                   rotate_left
                   ·show Act.put _ (some 66) _ = _
                    simp only [Act.put, List.setIfInBounds_toArray, List.set_cons_zero, List.set_cons_succ, i64_w, i32_w]
                    rfl
                   refine one_ (i := 10) (N := some 67) #[true, true, true, true, true, true, true, true, true, true, true, false, false, false] rfl rfl (one_of HT_.out (by kernel_rfl)) (by decide) (fun K hK => ?_)
                   refine value_ (w1 := ?_) (v := ?_) (by rfl) rfl ?_ ?_
                   rotate_left 2
                   ·go_simp
                    constructor
                    ·rfl
                    ·rfl
                   refine hK.out _ _ ⟨(blk_cell (bqX BK270.out _) 0).trans rfl, (blk_cell (bqX BK270.out _) 1).trans rfl, (blk_cell (bqX BK270.out _) 2).trans rfl, (blk_cell (bqX BK270.out _) 3).trans rfl, (World.cell?_alloc_lt _ _ _ (World.block_lt_of_cell? _ _ (hHeld.2.2.2.2.1))).trans (hHeld.2.2.2.2.1), (World.cell?_alloc_lt _ _ _ (World.block_lt_of_cell? _ _ (hHeld.2.2.2.2.2.1))).trans (hHeld.2.2.2.2.2.1), (World.cell?_alloc_lt _ _ _ (World.block_lt_of_cell? _ _ (hHeld.2.2.2.2.2.2.1))).trans (hHeld.2.2.2.2.2.2.1), (World.cell?_alloc_lt _ _ _ (World.block_lt_of_cell? _ _ (hHeld.2.2.2.2.2.2.2))).trans (hHeld.2.2.2.2.2.2.2)⟩ (fun hHeld => ?_)
                   clear hK K
                   refine norm_ (a' := ?_) ?_ ?_
                   rotate_left
                   ·show Act.put _ (some 67) _ = _
                    simp only [Act.put, List.setIfInBounds_toArray, List.set_cons_zero, List.set_cons_succ, i64_w, i32_w]
                    rfl
                   refine last_ (i := 11) (N := some 68) #[true, true, true, true, true, true, true, true, true, true, true, true, false, false] rfl rfl (one_of HT_.out (by kernel_rfl)) (by decide) (fun K hK => ?_)
                   refine Kd.R_append_step (Kd.int .i64) (w0 := w) w.heap.size (by rfl) (.tmp 58) (.tmp 67) 22 62 (.int .i64 0) 8 rfl Tryz.underlying22 info62 rfl (by decide) (by omega) u271003 x271003_3 t273 [.int .i64 t273] (fun _ => True) (fun _ => False) rfl rfl ?aP (fun _ hk => hk.elim) ?aF ?aO ?aB ?aS ?aL ?_
                   (case aP => exact rfl)
                   (case aB => exact (hbA))
                   (case aF => exact (fun _ _ => trivial))
                   (case aO => exact (by (with_reducible repeat (first | apply Kd.R_alloc | apply Kd.R_drewN | apply Kd.R_drew)); exact HO_271003.out))
                   (case aS => exact (below_size (hbA)))
                   (case aL => have := LMc28.out; omega)
                   intro v275 w30 ho hb hg hat
                   rw [← Ny274.out] at ho
                   have n0_ := Aside0.mk (Kd.R_over' (by (with_reducible repeat (first | apply Kd.R_alloc | apply Kd.R_drewN | apply Kd.R_drew)); exact HO_4.out) (Kd.R_typed (by (with_reducible repeat (first | apply Kd.R_alloc | apply Kd.R_drewN | apply Kd.R_drew)); exact HO_271003.out)) (by decide) hg)
                   have n1_ := Aside0.mk (blk_grown (g := gb259) (o := .cells #[.string x260000_2, .int .i64 x260001_2, .int .i64 x260002_2, .slice none 0 0] 24 (0, 0)) (have bk_ := BK259.out; bkA) hg (Kd.R_ne HO_271003.out BK259.out (by decide)))
                   have n2_ := Aside0.mk (blk_grown (g := gb270) (o := .cells #[.string a0, .int .i64 ((rd_T76 t260 x5_1).f1), .int .i64 ((rd_T76 t260 x5_1).f2), u271003] 24 (0, 0)) (have bk_ := BK270.out; bkA) hg (Kd.R_ne HO_271003.out BK270.out (by decide)))
                   have n3_ := Aside0.mk (hb)
                   have n4_ := Aside0.mk (ho)
                   clear HO_4
                   clear BK259
                   clear BK270
                   clear HB
                   clear HO_271003
                   have HO_4 := n0_
                   have BK259 := n1_
                   have BK270 := n2_
                   have HB := n3_
                   have HO276 := n4_
                   clear n0_ n1_ n2_ n3_ n4_
                   clear ho hb hg hat
                   obtain ⟨Ao31, co31, eo31⟩ := Kd.R_slice HO276.out
                   (first | subst eo31 | (injection eo31 with f1_ f2_ f3_; have f4_ := f1_.symm; have f5_ := f3_.symm; clear f1_ f2_ f3_; subst f4_; subst f5_))
                   refine hK.out _ _ ?_
                   clear hK K
                   refine norm_ (a' := ?_) ?_ ?_
                   rotate_left
                   ·show Act.put _ (some 68) _ = _
                    simp only [Act.put, List.setIfInBounds_toArray, List.set_cons_zero, List.set_cons_succ, i64_w, i32_w]
                    rfl
                   refine pq 12 69 HT_ ?_
                   refine last_ (i := 13) (N := none) #[true, true, true, true, true, true, true, true, true, true, true, true, true, true] rfl rfl (one_of HT_.out (by kernel_rfl)) (by decide) (fun K hK => ?_)
                   have hs32 : w30.cell? ⟨gb270, 3, none⟩ = some (u271003) := (blk_cell BK270.out 3).trans rfl
                   have hfs32 := blk_frozen BK270.out 3
                   have hns32_0 := NB259_270.out
                   have hms32_0 := NB270_259.out
                   refine skip_ (w1 := ?_) (by rfl) rfl ?_ ?_
                   rotate_left
                   ·go_simp
                    rfl
                   refine hK.out _ _ ?_
                   clear hK K
                   refine done_ (done_of HT_.out (by kernel_rfl)) ?_
                   try go_wp2
                   go_roundg k3
                   case measure => have := HK1.out; have := HK2.out; have := HK3.out; omega
                   case rel => exact ⟨(wrap64 (x9_3 + 1)), (y274), (.slice Ao31 y274.length co31), (rflS), H', ⟨by have := HK1.out; have := HK2.out; have := HK3.out; omega⟩, ⟨by (with_reducible repeat (first | apply Kd.R_alloc | apply Kd.R_drewN | apply Kd.R_drew)); exact Kd.R_mono (Kd.R_far (p := ⟨gb270, 3, none⟩) (Kd.R_types HO_4.out BK270.out (by decide)) (fun _ hk => hk.2) (.slice Ao31 y274.length co31)) (fun _ hk => trivial)⟩, ⟨by (with_reducible repeat (first | apply Kd.R_alloc | apply Kd.R_drewN | apply Kd.R_drew)); exact Kd.R_mono (Kd.R_far (p := ⟨gb270, 3, none⟩) (Kd.R_types HO276.out BK270.out (by decide)) (fun _ hk => hk.2) (.slice Ao31 y274.length co31)) (fun _ hk => trivial)⟩, ⟨by (with_reducible repeat (first | refine bqZ ?_ _ | refine bqY ?_ | refine bqX ?_ _)); refine blk_far ?_ NB259_270.out _; exact (have bk_ := BK259.out; bkA)⟩, ⟨by (with_reducible repeat (first | refine bqZ ?_ _ | refine bqY ?_ | refine bqX ?_ _)); refine blk_put (cs := #[.string a0, .int .i64 ((rd_T76 t260 x5_1).f1), .int .i64 ((rd_T76 t260 x5_1).f2), u271003]) ?_ 3 _ rfl; exact (have bk_ := BK270.out; bkA)⟩, ⟨hbA⟩⟩
                  ·rw [if_neg c28] at H
                   exact absurd H (by simp)
                 ·rw [if_neg c25] at H
                  exact absurd H (by simp)
                ·rw [if_neg c24] at H
                 have c24b0 : decide (x9_3 < (((rd_T76 t260 x5_1).f3).size : Int)) = false := decide_eq_false c24
                 clear c24
                 simp only [Option.some.injEq, Prod.mk.injEq] at H
                 obtain ⟨rfl, rfl, rfl, rfl, rfl⟩ := H
                 have p271 : 0 ≤ (x5_1 : Int) := of_decide_eq_true kA
                 have q271 : x5_1 < (t260.length : Int) := of_decide_eq_true kA
                 obtain ⟨ad271, e271, hx271_0, hx271_1, hx271_2, hx271_3⟩ := at_T76 (Kd.R_reads' HO_4.out).2.2 x5_1 p271 q271
                 obtain rfl : ad263 = ad271 := (by injection e271)
                 replace p271 := eq_true p271
                 replace q271 := eq_true q271
                 have hnb33 := NB270_259.out
                 have hnc33 := NB259_270.out
                 obtain ⟨hcz34_0, hcz34_1, hcz34_2, hcz34_3⟩ := cellsA4 BK270.out
                 obtain ⟨hfz34_0, hfz34_1, hfz34_2, hfz34_3⟩ := frozA4 BK270.out
                 obtain ⟨hcz35_0, hcz35_1, hcz35_2, hcz35_3⟩ := cellsA4 BK259.out
                 obtain ⟨hfz35_0, hfz35_1, hfz35_2, hfz35_3⟩ := frozA4 BK259.out
                 obtain ⟨Ao36, co36, eo36⟩ := Kd.R_slice HO_271003.out
                 subst eo36
                 go_wp2
                 refine bodyPost_ret (results_ct rfl _ _ gb259 24 #[.string a0, .int .i64 ((rd_T76 t260 x5_1).f1), .int .i64 ((rd_T76 t260 x5_1).f2), .slice Ao36 x271003_3.length co36] (0, 0) _ rfl (by (with_reducible repeat (first | refine bqZ ?_ _ | refine bqY ?_ | refine bqX ?_ _)); refine put4 (.string x260000_2) (.int .i64 x260001_2) (.int .i64 x260002_2) (.slice none 0 0) ?_; exact (have bk_ := BK259.out; bkA)) Tryz.underlying24 rfl (by kernel_rfl)) rfl ?_
                 exact ⟨_, rflE, by (with_reducible repeat (first | apply Kd.R_alloc | apply Kd.R_drewN | apply Kd.R_drew)); exact Kd.R_mono (Kd.R_far (p := ⟨gb259, 3, none⟩) (Kd.R_far (p := ⟨gb259, 2, none⟩) (Kd.R_far (p := ⟨gb259, 1, none⟩) (Kd.R_far (p := ⟨gb259, 0, none⟩) (Kd.R_types HO_271003.out BK259.out (by decide)) (fun _ hk => hk.2) (.string a0)) (fun _ hk => hk.2) (.int .i64 ((rd_T76 t260 x5_1).f1))) (fun _ hk => hk.2) (.int .i64 ((rd_T76 t260 x5_1).f2))) (fun _ hk => hk.2) (.slice Ao36 x271003_3.length co36)) (fun _ hk => trivial), hbA⟩
               ·rw [if_neg c23] at H
                exact absurd H (by simp)
              ·rw [if_neg c22] at H
               exact absurd H (by simp)
           ·rw [if_neg c14] at H
            exact absurd H (by simp)
          ·rw [if_neg c13] at H
           exact absurd H (by simp)
         ·rw [if_neg c12] at H
          have c12b0 : ((rdOf ByteArray.empty t264 x7_2).toList == a0.toList) = false := beq_eq_false_iff_ne.mpr c12
          have c12b1 : ((rdOf ByteArray.empty t264 x7_2).toList != a0.toList) = true := bne_iff_ne.mpr c12
          have H' := Aside0.mk H
          clear H
          obtain ⟨Ao37, co37, eo37⟩ := Kd.R_slice HO_6.out
          subst eo37
          have p267 : 0 ≤ (x7_2 : Int) := of_decide_eq_true kA
          have q267 : x7_2 < (t264.length : Int) := of_decide_eq_true kA
          obtain ⟨ad267, e267, hx267_0⟩ := Kd.at_string (Kd.R_reads' HO_6.out).2.2 x7_2 p267 q267
          cases e267
          replace p267 := eq_true p267
          replace q267 := eq_true q267
          go_wp2
          go_roundg k2
          case measure => have := HK1.out; have := HK2.out; omega
          case rel => exact ⟨(wrap64 (x7_2 + 1)), (x260000_2), (x260001_2), (x260002_2), (rflS), H', ⟨by have := HK1.out; have := HK2.out; omega⟩, ⟨by (with_reducible repeat (first | apply Kd.R_alloc | apply Kd.R_drewN | apply Kd.R_drew)); exact HO_4.out⟩, ⟨by (with_reducible repeat (first | apply Kd.R_alloc | apply Kd.R_drewN | apply Kd.R_drew)); exact HO_6.out⟩, ⟨have bk_ := BK259.out; bkA⟩, ⟨hbA⟩⟩
        ·rw [if_neg c11] at H
         exact absurd H (by simp)
       ·rw [if_neg c10] at H
        have c10b0 : decide (x7_2 < (t264.length : Int)) = false := decide_eq_false c10
        clear c10
        have H' := Aside0.mk H
        clear H
        obtain ⟨Ao38, co38, eo38⟩ := Kd.R_slice HO_6.out
        subst eo38
        go_wp2
        go_roundg k2
        case measure => have := HK1.out; have := HK2.out; omega
        case rel => exact ⟨(wrap64 (x5_1 + 1)), (x260000_2), (x260001_2), (x260002_2), (rflS), H', ⟨by have := HK1.out; have := HK2.out; omega⟩, ⟨by (with_reducible repeat (first | apply Kd.R_alloc | apply Kd.R_drewN | apply Kd.R_drew)); exact HO_4.out⟩, ⟨have bk_ := BK259.out; bkA⟩, ⟨hbA⟩⟩
    ·rw [if_neg c6] at H
     exact absurd H (by simp)
   ·rw [if_neg c5] at H
    have c5b0 : decide (x5_1 < (t260.length : Int)) = false := decide_eq_false c5
    clear c5
    simp only [Option.some.injEq, Prod.mk.injEq] at H
    obtain ⟨rfl, rfl, rfl, rfl, rfl⟩ := H
    obtain ⟨Ao39, co39, eo39⟩ := Kd.R_slice HO_4.out
    subst eo39
    obtain ⟨hcz40_0, hcz40_1, hcz40_2, hcz40_3⟩ := cellsA4 BK259.out
    obtain ⟨hfz40_0, hfz40_1, hfz40_2, hfz40_3⟩ := frozA4 BK259.out
    go_wp2
    refine bodyPost_ret (results_ct rfl _ _ gb259 24 #[.string (⟨#[]⟩ : ByteArray), .int .i64 0, .int .i64 0, .slice none 0 0] (0, 0) _ rfl (by (with_reducible repeat (first | refine bqZ ?_ _ | refine bqY ?_ | refine bqX ?_ _)); refine put4 (.string x260000_1) (.int .i64 x260001_1) (.int .i64 x260002_1) (.slice none 0 0) ?_; exact (have bk_ := BK259.out; bkA)) Tryz.underlying24 rfl (by kernel_rfl)) rfl ?_
    exact ⟨_, rflE, by first | exact Kd.R_nil _ _ _ _ _ | exact Kd.N_nil _ _ _ _ _ | exact Kd.V_nil _ _ _ _ _ | exact Kd.Q_nil _ _ _ _ _ | exact Kd.S_nil _ _ _ _ _, hbA⟩
end Go.Proofs.YtopdjokncbpghaaGreatDoor.Pr
end
