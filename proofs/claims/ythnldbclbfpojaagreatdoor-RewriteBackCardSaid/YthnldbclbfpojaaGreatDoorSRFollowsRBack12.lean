/-
  Lemmas for the law RFollowsRBack.
-/
import Derived.Test.YthnldbclbfpojaaGreatDoorSRFollowsRBack5
import Derived.Test.YthnldbclbfpojaaGreatDoorSRFollowsRBack10
import Derived.Test.YthnldbclbfpojaaGreatDoorSRFollowsRBack11
set_option maxHeartbeats 8000000
set_option maxRecDepth 100000
set_option linter.unusedVariables false
set_option linter.unusedSimpArgs false
section
namespace Go.Proofs.YthnldbclbfpojaaGreatDoor.Pr
open Go.RowKit Go.Proofs.YthnldbclbfpojaaGreatDoorW.PrintWords Go.Proofs.YthnldbclbfpojaaGreatDoorW.PrintLast Go.Proofs.YthnldbclbfpojaaGreatDoorW.PrintMore
attribute [local go_sem] max2_int min2_int max_two min_two max_three min_three max_four min_four   -- for this text's walks alone
def move_Check.f (a0_0 : Int) (a0_1 : Int) (a0_2 : Int) : Option (Int) := if a0_0 < 1 then (some 2) else (if a0_0 > 4 then (some 2) else (if a0_1 < 1 then (some 2) else ((move_most.f a0_0 a0_1 a0_2).bind fun t118 => (if a0_1 > t118 then (some 2) else (if a0_2 < 1 then (some 2) else ((move_most.f a0_0 a0_1 a0_2).bind fun t119 => (if a0_2 > (wrap64 ((wrap64 (t119 - a0_1)) + 1)) then (some 2) else (some 0))))))))
def mvCheck.T1 : Bool × List (List Nat × List Nat) := (true, [([], []), ([0], [0]), ([1], [1]), ([2], [2]), ([3], [3]), ([4, 3], [3, 4]), ([5, 3], [3, 5]), ([3, 6], [3, 6]), ([7, 3], [7]), ([8], [8]), ([9, 8], [8, 9]), ([10, 8], [8, 10]), ([8, 11], [8, 11]), ([12, 8], [12]), ([13], [13]), ([14, 13], [13, 14]), ([13], [13]), ([16, 13, 13], [13, 16]), ([15, 17, 13], [13, 15, 17]), ([13, 18], [13, 18]), ([19, 17], [19]), ([20], [20]), ([21, 20], [20, 21]), ([22, 20], [20, 22]), ([20, 23], [20, 23]), ([24, 20], [24]), ([25], [25]), ([26, 25], [25, 26]), ([25], [25]), ([28, 25, 25], [25, 28]), ([25], [25]), ([30, 25], [25, 30]), ([29, 31, 25], [25, 29, 31]), ([32, 25], [25, 32]), ([27, 33, 25], [25, 27, 33]), ([25, 34], [25, 34])])
def mvCheck.B1 : List Nat := [0, 1, 3, 7, 15, 31, 63, 127, 255, 511, 1023, 2047, 4095, 8191, 16383, 32767, 16383, 81919, 262143, 524287, 1048575, 2097151, 4194303, 8388607, 16777215, 33554431, 67108863, 134217727, 67108863, 335544319, 67108863, 1140850687, 4093640703, 8388607999, 17179869183, 34359738367]
theorem mvCheck.tab1 : rtab .any (opsOf Tryz.f37 1) = mvCheck.T1 := by kernel_rfl
theorem mvCheck.bits1 : waitsOk mvCheck.T1.2 mvCheck.B1 = true := by kernel_rfl
theorem move_Check.calls (a0_0 : Int) (a0_1 : Int) (a0_2 : Int) (r : Int) (w : World) (h : move_Check.f a0_0 a0_1 a0_2 = some r) :
    Calls Tryz.prog 37 #[.agg #[.int .i64 a0_0, .int .i64 a0_1, .int .i64 a0_2]] w fun e w' => e = .returned (.int .i64 r) ∧ Below w.heap.size w w' := by
  have hm : ∃ m, move_most.f a0_0 a0_1 a0_2 = some m := by
    unfold move_most.f move_rows.f
    repeat' split
    all_goals first | exact ⟨_, rfl⟩ | (simp only [Option.bind]; split <;> exact ⟨_, rfl⟩)
  obtain ⟨m, hm⟩ := hm
  unfold move_Check.f at h
  rw [hm] at h
  simp only [Option.bind_some] at h
  have HM := Aside0.mk hm
  clear hm
  have main : ∀ (b1 b2 b3 b4 b5 b6 : Bool), decide (a0_0 < 1) = b1 → decide (4 < a0_0) = b2 → decide (a0_1 < 1) = b3 → decide (m < a0_1) = b4 → decide (a0_2 < 1) = b5 → decide (IntKind.i64.wrap (IntKind.i64.wrap (m - a0_1) + 1) < a0_2) = b6 →
      Aside0 (r = if (b1 || (b2 || (b3 || (b4 || (b5 || b6))))) = true then 2 else 0) → Calls Tryz.prog 37 #[.agg #[.int .i64 a0_0, .int .i64 a0_1, .int .i64 a0_2]] w fun e w' => e = .returned (.int .i64 r) ∧ Below w.heap.size w w' := by
    intro b1 b2 b3 b4 b5 b6 e1 e2 e3 e4 e5 e6 HR
    clear h
    cases b1 <;> (try cases b2) <;> (try cases b3) <;> (try cases b4) <;> (try cases b5) <;> (try cases b6)
    all_goals
      obtain rfl := HR.out
      clear HR
      go_enter Tryz.func37, Tryz.ntmps37
      go_wp2
      refine start_ (n := 36) (S := fun w' => w'.heap[w.heap.size]? = some (.cells #[.int .i64 a0_0, .int .i64 a0_1, .int .i64 a0_2] 47 (0, 0)) ∧ Below w.heap.size w w') (ds := []) (Array.replicate 36 false) (by kernel_rfl) rfl rfl ⟨bqY (newBlk w _), bqD (bel1 w _)⟩ (fun hHeld => ?_)
      refine with_tabW mvCheck.tab1 mvCheck.bits1 (fun HT_ HW_ => ?_)
      refine pz 0 3 HT_ ?_
      refine tz 1 4 HT_ HW_ (hr := (by rintro w' s0; have q := fun i => blk_cell s0.1 i; go_simp; with_reducible rfl)) (hS := hHeld) (h := ?_)
      refine pz 2 5 HT_ ?_; refine pz 3 6 HT_ ?_
      first
        | refine uz 4 7 HT_ ?_
        | refine pz 4 7 HT_ ?_
      first
        | refine uz 5 8 HT_ ?_
        | refine tz 5 8 HT_ HW_ (hr := (by rintro w' s0; have q := fun i => blk_cell s0.1 i; go_simp; with_reducible rfl)) (hS := hHeld) (h := ?_)
      first
        | refine uz 6 9 HT_ ?_
        | refine pz 6 9 HT_ ?_
      refine pz 7 10 HT_ ?_; refine pz 8 11 HT_ ?_
      first
        | refine uz 9 12 HT_ ?_
        | refine pz 9 12 HT_ ?_
      first
        | refine uz 10 13 HT_ ?_
        | refine tz 10 13 HT_ HW_ (hr := (by rintro w' s0; have q := fun i => blk_cell s0.1 i; go_simp; with_reducible rfl)) (hS := hHeld) (h := ?_)
      first
        | refine uz 11 14 HT_ ?_
        | refine pz 11 14 HT_ ?_
      refine pz 12 15 HT_ ?_; refine pz 13 16 HT_ ?_
      first
        | refine uz 14 17 HT_ ?_
        | refine pz 14 17 HT_ ?_
      first
        | refine uz 15 18 HT_ ?_
        | refine tz 15 18 HT_ HW_ (hr := (by rintro w' s0; have q := fun i => blk_cell s0.1 i; go_simp; with_reducible rfl)) (hS := hHeld) (h := ?_)
      first
        | refine uz 16 19 HT_ ?_
        | refine tz 16 19 HT_ HW_ (hr := (by rintro w' s0; have q := fun i => blk_cell s0.1 i; go_simp; with_reducible rfl)) (hS := hHeld) (h := ?_)
      first
        | refine uz 17 20 HT_ ?_
        | (refine oneI 17 (some 20) HT_ rfl rfl (by kernel_rfl) (by decide) (fun K hK => ?_)
           refine goes_ Tryz.func70 (by kernel_rfl) rfl #[.agg #[.int .i64 a0_0, .int .i64 a0_1, .int .i64 a0_2]] (by (try simp only [List.map_toArray, List.map_cons, List.map_nil]); first | done | rfl) rfl rfl (by first | rfl | ((try simp only [List.map_toArray, List.map_cons, List.map_nil]); first | done | rfl)) ?_
           with_reducible refine (move_most.calls _ _ _ _ _ HM.out).mono ?_
           rintro e wn ⟨rfl, hb⟩
           refine ⟨_, rfl, ?_⟩
           refine hK.out _ _ ⟨blk_below hHeld.1 hb, below_step hHeld.2 hb⟩ (fun hHeld => ?_)
           clear hK K
           refine norm_ (a' := ?_) ?_ ?_
           rotate_left
           · show Act.put _ (some 20) _ = _
             simp only [Act.put, List.setIfInBounds_toArray, List.set_cons_zero, List.set_cons_succ]
             rfl)
      first
        | refine uz 18 21 HT_ ?_
        | refine pz 18 21 HT_ ?_
      refine pz 19 22 HT_ ?_; refine pz 20 23 HT_ ?_
      first
        | refine uz 21 24 HT_ ?_
        | refine pz 21 24 HT_ ?_
      first
        | refine uz 22 25 HT_ ?_
        | refine tz 22 25 HT_ HW_ (hr := (by rintro w' s0; have q := fun i => blk_cell s0.1 i; go_simp; with_reducible rfl)) (hS := hHeld) (h := ?_)
      first
        | refine uz 23 26 HT_ ?_
        | refine pz 23 26 HT_ ?_
      refine pz 24 27 HT_ ?_; refine pz 25 28 HT_ ?_
      first
        | refine uz 26 29 HT_ ?_
        | refine pz 26 29 HT_ ?_
      first
        | refine uz 27 30 HT_ ?_
        | refine tz 27 30 HT_ HW_ (hr := (by rintro w' s0; have q := fun i => blk_cell s0.1 i; go_simp; with_reducible rfl)) (hS := hHeld) (h := ?_)
      first
        | refine uz 28 31 HT_ ?_
        | refine tz 28 31 HT_ HW_ (hr := (by rintro w' s0; have q := fun i => blk_cell s0.1 i; go_simp; with_reducible rfl)) (hS := hHeld) (h := ?_)
      first
        | refine uz 30 33 HT_ ?_
        | refine pz 30 33 HT_ ?_
      first
        | refine uz 31 34 HT_ ?_
        | refine tz 31 34 HT_ HW_ (hr := (by rintro w' s0; have q := fun i => blk_cell s0.1 i; go_simp; with_reducible rfl)) (hS := hHeld) (h := ?_)
      first
        | refine uz 29 32 HT_ ?_
        | (refine oneI 29 (some 32) HT_ rfl rfl (by kernel_rfl) (by decide) (fun K hK => ?_)
           refine goes_ Tryz.func70 (by kernel_rfl) rfl #[.agg #[.int .i64 a0_0, .int .i64 a0_1, .int .i64 a0_2]] (by (try simp only [List.map_toArray, List.map_cons, List.map_nil]); first | done | rfl) rfl rfl (by first | rfl | ((try simp only [List.map_toArray, List.map_cons, List.map_nil]); first | done | rfl)) ?_
           with_reducible refine (move_most.calls _ _ _ _ _ HM.out).mono ?_
           rintro e wn ⟨rfl, hb⟩
           refine ⟨_, rfl, ?_⟩
           refine hK.out _ _ ⟨blk_below hHeld.1 hb, below_step hHeld.2 hb⟩ (fun hHeld => ?_)
           clear hK K
           refine norm_ (a' := ?_) ?_ ?_
           rotate_left
           · show Act.put _ (some 32) _ = _
             simp only [Act.put, List.setIfInBounds_toArray, List.set_cons_zero, List.set_cons_succ]
             rfl)
      first
        | refine uz 32 35 HT_ ?_
        | refine pz 32 35 HT_ ?_
      first
        | refine uz 33 36 HT_ ?_
        | refine pz 33 36 HT_ ?_
      first
        | refine uz 34 37 HT_ ?_
        | refine pz 34 37 HT_ ?_
      refine pz 35 38 HT_ ?_
      refine done_ (done_of HT_.out (by kernel_rfl)) ?_
      go_wp2
      go_ret
      exact ⟨rfl, hHeld.2⟩
  exact main _ _ _ _ _ _ rfl rfl rfl rfl rfl rfl ⟨by
    rw [i64_w, i64_w]
    simp only [Bool.or_eq_true, decide_eq_true_eq]
    by_cases c1 : a0_0 < 1
    · rw [if_pos c1] at h; cases h; rw [if_pos (by omega)]
    rw [if_neg c1] at h
    by_cases c2 : a0_0 > 4
    · rw [if_pos c2] at h; cases h; rw [if_pos (by omega)]
    rw [if_neg c2] at h
    by_cases c3 : a0_1 < 1
    · rw [if_pos c3] at h; cases h; rw [if_pos (by omega)]
    rw [if_neg c3] at h
    by_cases c4 : a0_1 > m
    · rw [if_pos c4] at h; cases h; rw [if_pos (by omega)]
    rw [if_neg c4] at h
    by_cases c5 : a0_2 < 1
    · rw [if_pos c5] at h; cases h; rw [if_pos (by omega)]
    rw [if_neg c5] at h
    by_cases c6 : a0_2 > wrap64 (wrap64 (m - a0_1) + 1)
    · rw [if_pos c6] at h; cases h; rw [if_pos (by omega)]
    rw [if_neg c6] at h; cases h; rw [if_neg (by omega)]⟩
end Go.Proofs.YthnldbclbfpojaaGreatDoor.Pr
end
