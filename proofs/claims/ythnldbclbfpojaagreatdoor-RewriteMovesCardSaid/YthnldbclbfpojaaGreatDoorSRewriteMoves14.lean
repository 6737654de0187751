/-
  What the law RewriteMoves leans on, out of the texts that were printed and written for this seat: only what its proof mentions (gathered by a program of the author's).
-/
import Derived.Test.YthnldbclbfpojaaGreatDoorSRewriteMoves5
import Derived.Test.YthnldbclbfpojaaGreatDoorSRewriteMoves12
import Derived.Test.YthnldbclbfpojaaGreatDoorSRewriteMoves13
import Derived.Test.YthnldbclbfpojaaGreatDoorSRewriteMoves11
set_option maxHeartbeats 8000000
set_option maxRecDepth 100000
set_option linter.unusedVariables false
set_option linter.unusedSimpArgs false
section
namespace Go.Proofs.YthnldbclbfpojaaGreatDoor.Pr
open Go.RowKit Go.Proofs.YthnldbclbfpojaaGreatDoorW.PrintWords Go.Proofs.YthnldbclbfpojaaGreatDoorW.PrintLast Go.Proofs.YthnldbclbfpojaaGreatDoorW.PrintMore
attribute [local go_sem] max2_int min2_int max_two min_two max_three min_three max_four min_four   -- for this text's walks alone
def foolscapref06_Right.f (a0_0 : Int) (a0_1 : Int) (a0_2 : Int) : Option (Bool) := if a0_0 ≥ 1 then (if a0_0 ≤ 4 then (if a0_1 ≥ 1 then ((foolscapref06_most.f a0_0 a0_1 a0_2).bind fun t143 => (if a0_1 ≤ t143 then (if a0_2 ≥ 1 then ((foolscapref06_most.f a0_0 a0_1 a0_2).bind fun t144 => (some (decide (a0_2 ≤ (wrap64 ((wrap64 (t144 - a0_1)) + 1)))))) else (some false)) else (some false))) else (some false)) else (some false)) else (some false)
section
variable {P : Program} {ops : Array Oper} {Q : Exit → Act → World → Prop} {md : Region.Mode} {S : World → Prop} {ds : List Nat} {T : Bool × List (List Nat × List Nat)} {B : List Nat} {oi : Oper} {v : Value} {fuel : Nat} {l : Array Bool} {a a' : Act} {w : World}
theorem tq6 (i : Nat) (N : Tmp) (hT : Aside0 (rtab md ops = T)) (hB : Aside0 (waitsOk T.2 B = true)) (hS : S w) (h : wpAnyLast P md ops Q S ds fuel (l.setIfInBounds i true) a' w) (hi : ops[i]? = some oi := by exact rfl) (hN : oi.dst = some N := by exact rfl) (hc : takeW T B ds l.toList (l.setIfInBounds i true).toList i = true := by kernel_rfl) (hw : Region.wanted oi (yielded ops a.tmps) = true := by rfl)
  (hr : ∀ w', S w' → (execOp a.eval oi).run P w' = .ok (.value v) w' := by
   rintro w' s0
   have q := fun i => blk_cell s0.1 i
   go_simp
   with_reducible rfl) (ha : a.put (some N) v = a' := by
  simp only [Act.put, List.setIfInBounds_toArray, List.set_cons_zero, List.set_cons_succ, i64_w, i32_w]
  rfl) (hQ : ∀ c a w, Q (.panic c) (a.put oi.dst v) w → Q (.panic c) a w := by exact fun _ _ _ h => h) : wpAnyLast P md ops Q S ds (fuel + 1) l a w :=
 take_ (l.setIfInBounds i true) hi hN (take_ofW hT.out hB.out hc) hQ (Or.inl ⟨hw, hr⟩) hS ha h
end
def ri6.T1 : Bool × List (List Nat × List Nat) := (true, [([], []), ([0], [0]), ([1], [1]), ([2], [2]), ([3], [3]), ([4, 3], [3, 4]), ([5, 3], [3, 5]), ([3, 6], [3, 6]), ([7, 3], [7]), ([8], [8]), ([9, 8], [8, 9]), ([10, 8], [8, 10]), ([8, 11], [8, 11]), ([12, 8], [12]), ([13], [13]), ([14, 13], [13, 14]), ([13], [13]), ([16, 13, 13], [13, 16]), ([15, 17, 13], [13, 15, 17]), ([13, 18], [13, 18]), ([19, 17], [19]), ([20], [20]), ([21, 20], [20, 21]), ([22, 20], [20, 22]), ([20, 23], [20, 23]), ([24, 20], [24]), ([25], [25]), ([26, 25], [25, 26]), ([25], [25]), ([28, 25, 25], [25, 28]), ([25], [25]), ([30, 25], [25, 30]), ([29, 31, 25], [25, 29, 31]), ([32, 25], [25, 32]), ([27, 33, 25], [25, 27, 33]), ([25, 34], [25, 34]), ([35, 29, 0, 1, 2, 3, 4, 5, 6, 7, 8, 9, 10, 11, 12, 13, 14, 15, 16, 17, 18, 19, 20, 21, 22, 23, 24, 25, 26, 27, 28, 29, 30, 31, 32, 33, 34, 35], [35])])
def ri6.B1 : List Nat := [0, 1, 3, 7, 15, 31, 63, 127, 255, 511, 1023, 2047, 4095, 8191, 16383, 32767, 16383, 81919, 262143, 524287, 1048575, 2097151, 4194303, 8388607, 16777215, 33554431, 67108863, 134217727, 67108863, 335544319, 67108863, 1140850687, 4093640703, 8388607999, 17179869183, 34359738367, 68719476735]
theorem ri6.tab1 : rtab .any (opsOf Tryz.f75 1) = ri6.T1 := by kernel_rfl
theorem ri6.bits1 : waitsOk ri6.T1.2 ri6.B1 = true := by kernel_rfl
theorem foolscapref06_Right.calls (a0_0 : Int) (a0_1 : Int) (a0_2 : Int) (r : Bool) (w : World) (h : foolscapref06_Right.f a0_0 a0_1 a0_2 = some r) :
    Calls Tryz.prog 75 #[.agg #[.int .i64 a0_0, .int .i64 a0_1, .int .i64 a0_2]] w fun e w' => e = .returned (.bool r) ∧ Below w.heap.size w w' := by
  have hm : ∃ m, foolscapref06_most.f a0_0 a0_1 a0_2 = some m := by
    unfold foolscapref06_most.f foolscapref06_Rows.f
    repeat' split
    all_goals first | exact ⟨_, rfl⟩ | (simp only [Option.bind]; split <;> exact ⟨_, rfl⟩)
  obtain ⟨m, hm⟩ := hm
  unfold foolscapref06_Right.f at h
  rw [hm] at h
  simp only [Option.bind_some] at h
  have HM := Aside0.mk hm
  clear hm
  have main : ∀ (b1 b2 b3 b4 b5 b6 : Bool), decide (1 ≤ a0_0) = b1 → decide (a0_0 ≤ 4) = b2 → decide (1 ≤ a0_1) = b3 → decide (a0_1 ≤ m) = b4 → decide (1 ≤ a0_2) = b5 → decide (a0_2 ≤ wrap64 (wrap64 (m - a0_1) + 1)) = b6 →
      Aside0 (r = (b1 && (b2 && (b3 && (b4 && (b5 && b6)))))) → Calls Tryz.prog 75 #[.agg #[.int .i64 a0_0, .int .i64 a0_1, .int .i64 a0_2]] w fun e w' => e = .returned (.bool r) ∧ Below w.heap.size w w' := by
    intro b1 b2 b3 b4 b5 b6 e1 e2 e3 e4 e5 e6 HR
    clear h
    cases b1 <;> (try cases b2) <;> (try cases b3) <;> (try cases b4) <;> (try cases b5) <;> (try cases b6)
    all_goals
      obtain rfl := HR.out
      clear HR
      go_enter Tryz.func75, Tryz.ntmps75
      go_wp2
      refine start_ (n := 37) (S := fun w' => w'.heap[w.heap.size]? = some (.cells #[.int .i64 a0_0, .int .i64 a0_1, .int .i64 a0_2] 47 (0, 0)) ∧ Below w.heap.size w w') (ds := []) (Array.replicate 37 false) (by kernel_rfl) rfl rfl ⟨bqY (newBlk w _), bqD (bel1 w _)⟩ (fun hHeld => ?_)
      refine with_tabW ri6.tab1 ri6.bits1 (fun HT_ HW_ => ?_)
      refine pq 0 3 HT_ ?_
      refine tq6 1 4 HT_ HW_ hHeld ?_
      refine pq 2 5 HT_ ?_
      refine pq 3 6 HT_ ?_
      first | refine uq 4 7 HT_ ?_ | refine pq 4 7 HT_ ?_
      first | refine uq 5 8 HT_ ?_ | refine tq6 5 8 HT_ HW_ hHeld ?_
      first | refine uq 6 9 HT_ ?_ | refine pq 6 9 HT_ ?_
      refine pq 7 10 HT_ ?_
      refine pq 8 11 HT_ ?_
      first | refine uq 9 12 HT_ ?_ | refine pq 9 12 HT_ ?_
      first | refine uq 10 13 HT_ ?_ | refine tq6 10 13 HT_ HW_ hHeld ?_
      first | refine uq 11 14 HT_ ?_ | refine pq 11 14 HT_ ?_
      refine pq 12 15 HT_ ?_
      refine pq 13 16 HT_ ?_
      first | refine uq 14 17 HT_ ?_ | refine pq 14 17 HT_ ?_
      first | refine uq 15 18 HT_ ?_ | refine tq6 15 18 HT_ HW_ hHeld ?_
      first | refine uq 16 19 HT_ ?_ | refine tq6 16 19 HT_ HW_ hHeld ?_
      first
        | refine uq 17 20 HT_ ?_
        | (refine oneI 17 (some 20) HT_ rfl rfl (by kernel_rfl) (by decide) (fun K hK => ?_)
           refine goes_ Tryz.func99 (by kernel_rfl) rfl #[.agg #[.int .i64 a0_0, .int .i64 a0_1, .int .i64 a0_2]] (by (try simp only [List.map_toArray, List.map_cons, List.map_nil]); first | done | rfl) rfl rfl (by first | rfl | ((try simp only [List.map_toArray, List.map_cons, List.map_nil]); first | done | rfl)) ?_
           with_reducible refine (foolscapref06_most.calls _ _ _ _ _ HM.out).mono ?_
           rintro e wn ⟨rfl, hb⟩
           refine ⟨_, rfl, ?_⟩
           refine hK.out _ _ ⟨blk_below hHeld.1 hb, below_step hHeld.2 hb⟩ (fun hHeld => ?_)
           clear hK K
           refine norm_ (a' := ?_) ?_ ?_
           rotate_left
           · show Act.put _ (some 20) _ = _
             simp only [Act.put, List.setIfInBounds_toArray, List.set_cons_zero, List.set_cons_succ]
             rfl)
      first | refine uq 18 21 HT_ ?_ | refine pq 18 21 HT_ ?_
      refine pq 19 22 HT_ ?_
      refine pq 20 23 HT_ ?_
      first | refine uq 21 24 HT_ ?_ | refine pq 21 24 HT_ ?_
      first | refine uq 22 25 HT_ ?_ | refine tq6 22 25 HT_ HW_ hHeld ?_
      first | refine uq 23 26 HT_ ?_ | refine pq 23 26 HT_ ?_
      refine pq 24 27 HT_ ?_
      refine pq 25 28 HT_ ?_
      first | refine uq 26 29 HT_ ?_ | refine pq 26 29 HT_ ?_
      first | refine uq 30 33 HT_ ?_ | refine pq 30 33 HT_ ?_
      first | refine uq 27 30 HT_ ?_ | refine tq6 27 30 HT_ HW_ hHeld ?_
      first | refine uq 28 31 HT_ ?_ | refine tq6 28 31 HT_ HW_ hHeld ?_
      first | refine uq 31 34 HT_ ?_ | refine tq6 31 34 HT_ HW_ hHeld ?_
      first
        | refine uq 29 32 HT_ ?_
        | (refine oneI 29 (some 32) HT_ rfl rfl (by kernel_rfl) (by decide) (fun K hK => ?_)
           refine goes_ Tryz.func99 (by kernel_rfl) rfl #[.agg #[.int .i64 a0_0, .int .i64 a0_1, .int .i64 a0_2]] (by (try simp only [List.map_toArray, List.map_cons, List.map_nil]); first | done | rfl) rfl rfl (by first | rfl | ((try simp only [List.map_toArray, List.map_cons, List.map_nil]); first | done | rfl)) ?_
           with_reducible refine (foolscapref06_most.calls _ _ _ _ _ HM.out).mono ?_
           rintro e wn ⟨rfl, hb⟩
           refine ⟨_, rfl, ?_⟩
           refine hK.out _ _ ⟨blk_below hHeld.1 hb, below_step hHeld.2 hb⟩ (fun hHeld => ?_)
           clear hK K
           refine norm_ (a' := ?_) ?_ ?_
           rotate_left
           · show Act.put _ (some 32) _ = _
             simp only [Act.put, List.setIfInBounds_toArray, List.set_cons_zero, List.set_cons_succ]
             rfl)
      first | refine uq 32 35 HT_ ?_ | refine pq 32 35 HT_ ?_
      first | refine uq 33 36 HT_ ?_ | refine pq 33 36 HT_ ?_
      first | refine uq 34 37 HT_ ?_ | refine pq 34 37 HT_ ?_
      refine pq 35 38 HT_ ?_
      refine pq 36 2 HT_ ?_
      refine done_ (done_of HT_.out (by kernel_rfl)) ?_
      go_wp2
      go_ret
      exact ⟨rfl, hHeld.2⟩
  exact main _ _ _ _ _ _ rfl rfl rfl rfl rfl rfl ⟨by
    by_cases c1 : a0_0 ≥ 1
    · rw [if_pos c1] at h
      rw [decide_eq_true (show 1 ≤ a0_0 from c1), Bool.true_and]
      by_cases c2 : a0_0 ≤ 4
      · rw [if_pos c2] at h
        rw [decide_eq_true c2, Bool.true_and]
        by_cases c3 : a0_1 ≥ 1
        · rw [if_pos c3] at h
          rw [decide_eq_true (show 1 ≤ a0_1 from c3), Bool.true_and]
          by_cases c4 : a0_1 ≤ m
          · rw [if_pos c4] at h
            rw [decide_eq_true c4, Bool.true_and]
            by_cases c5 : a0_2 ≥ 1
            · rw [if_pos c5] at h
              rw [decide_eq_true (show 1 ≤ a0_2 from c5), Bool.true_and]
              exact (Option.some.inj h).symm
            · rw [if_neg c5] at h; cases h; rw [decide_eq_false (show ¬1 ≤ a0_2 from c5)]; rfl
          · rw [if_neg c4] at h; cases h; rw [decide_eq_false c4]; rfl
        · rw [if_neg c3] at h; cases h; rw [decide_eq_false (show ¬1 ≤ a0_1 from c3)]; rfl
      · rw [if_neg c2] at h; cases h; rw [decide_eq_false c2]; rfl
    · rw [if_neg c1] at h; cases h; rw [decide_eq_false (show ¬1 ≤ a0_0 from c1)]; rfl⟩
def foolscapref06_Check.f (a0_0 : Int) (a0_1 : Int) (a0_2 : Int) : Option (Int) := (foolscapref06_Right.f a0_0 a0_1 a0_2).bind fun t146 => (if t146 = true then (some 0) else (some 2))
theorem foolscapref06_Check.calls (a0_0 : Int) (a0_1 : Int) (a0_2 : Int) (r : Int) (w : World) (h : foolscapref06_Check.f a0_0 a0_1 a0_2 = some r) :
  Calls Tryz.prog 39 #[.agg #[.int .i64 a0_0, .int .i64 a0_1, .int .i64 a0_2]] w fun e w' => e = .returned (.int .i64 r) ∧ Below w.heap.size w w' := by
 have hu47 := Tryz.underlying47
 have HB := Aside0.mk (Below.refl w.heap.size w)
 have H : ((foolscapref06_Right.f a0_0 a0_1 a0_2).bind fun t146 => (if t146 = true then (some 0) else (some 2))) = some r := h
 clear h
 replace H := Option.bind_eq_some_iff.mp H
 obtain ⟨t146, A20, H⟩ := H
 replace H : (if t146 = true then (some 0) else (some 2)) = some r := H
 have A2 := Aside0.mk A20
 clear A20
 by_cases c3 : t146 = true
 ·subst c3
  have H1 : (some 0) = some r := by rw [if_pos rfl] at H; exact H
  clear H
  have H := H1
  clear H1
  obtain rfl := Option.some.inj H
  go_enter Tryz.func39, Tryz.ntmps39
  go_wp2_with (first | ((with_reducible refine gate_dst (N := 1) rfl ?_); refine boxE 1 47 (#[.int .i64 a0_0, .int .i64 a0_1, .int .i64 a0_2]) ?_; intro gb145 hg w4 hbox hb; have n0_ := Aside0.mk (below_step (hbA) hb); have n1_ := Aside0.mk (hbox); have n2_ := Aside0.mk ((by rw [hg]; exact (below_size (hbA)) : w.heap.size ≤ gb145)); have n3_ := n2_; clear HB; have HB := n0_; have BK145 := n1_; have GW145 := n2_; have GE145 := n3_; clear n0_ n1_ n2_ n3_; clear hb hbox hg; obtain ⟨hcz5_0, hcz5_1, hcz5_2⟩ := cellsA3 BK145.out; obtain ⟨hfz5_0, hfz5_1, hfz5_2⟩ := frozA3 BK145.out) | ((with_reducible refine gate_callee (f := 75) rfl ?_); refine goesL_ (some 4) rfl rfl Tryz.func75 (by kernel_rfl) rfl #[.agg #[.int .i64 a0_0, .int .i64 a0_1, .int .i64 a0_2]] rfl argA ?_; (with_reducible refine (foolscapref06_Right.calls a0_0 a0_1 a0_2 true _ A2.out).mono ?_); rintro e w6 ⟨rfl, hb⟩; refine ⟨_, rfl, ?_⟩; have n0_ := Aside0.mk (blk_below (g := gb145) (o := .cells #[.int .i64 a0_0, .int .i64 a0_1, .int .i64 a0_2] 47 (0, 0)) (have bk_ := BK145.out; bkA) hb); have n1_ := Aside0.mk (below_step (hbA) hb); clear BK145; clear HB; have BK145 := n0_; have HB := n1_; clear n0_ n1_; (try clear hb); (try clear hb2); (try clear hk); (try clear hi)))
  go_ret
  exact ⟨rflE, hbA⟩
 ·replace c3 := Bool.eq_false_iff.mpr c3
  subst c3
  have H1 : (some 2) = some r := by rw [if_neg (show ¬ (false = true) by decide)] at H; exact H
  clear H
  have H := H1
  clear H1
  obtain rfl := Option.some.inj H
  go_enter Tryz.func39, Tryz.ntmps39
  go_wp2_with (first | ((with_reducible refine gate_dst (N := 1) rfl ?_); refine boxE 1 47 (#[.int .i64 a0_0, .int .i64 a0_1, .int .i64 a0_2]) ?_; intro gb145 hg w7 hbox hb; have n0_ := Aside0.mk (below_step (hbA) hb); have n1_ := Aside0.mk (hbox); have n2_ := Aside0.mk ((by rw [hg]; exact (below_size (hbA)) : w.heap.size ≤ gb145)); have n3_ := n2_; clear HB; have HB := n0_; have BK145 := n1_; have GW145 := n2_; have GE145 := n3_; clear n0_ n1_ n2_ n3_; clear hb hbox hg; obtain ⟨hcz8_0, hcz8_1, hcz8_2⟩ := cellsA3 BK145.out; obtain ⟨hfz8_0, hfz8_1, hfz8_2⟩ := frozA3 BK145.out) | ((with_reducible refine gate_callee (f := 75) rfl ?_); refine goesL_ (some 4) rfl rfl Tryz.func75 (by kernel_rfl) rfl #[.agg #[.int .i64 a0_0, .int .i64 a0_1, .int .i64 a0_2]] rfl argA ?_; (with_reducible refine (foolscapref06_Right.calls a0_0 a0_1 a0_2 false _ A2.out).mono ?_); rintro e w9 ⟨rfl, hb⟩; refine ⟨_, rfl, ?_⟩; have n0_ := Aside0.mk (blk_below (g := gb145) (o := .cells #[.int .i64 a0_0, .int .i64 a0_1, .int .i64 a0_2] 47 (0, 0)) (have bk_ := BK145.out; bkA) hb); have n1_ := Aside0.mk (below_step (hbA) hb); clear BK145; clear HB; have BK145 := n0_; have HB := n1_; clear n0_ n1_; (try clear hb); (try clear hb2); (try clear hk); (try clear hi)))
  go_ret
  exact ⟨rflE, hbA⟩
def foolscapref06_line.j0 : Nat → Int → Bool → Int → Int → Int → Option (Int × Int)
 | 0, _, _, _, _, _ => none
 | k + 1, x1, x18, x148000, x148001, x148002 => if x18 = true then ((foolscapref06_most.f x148000 x148001 x148002).bind fun t148 => (if (wrap64 (x1 + x148002)) > t148 then (some (0, 2)) else (some (wrap64 (x1 + x148002), 0)))) else (if x1 < (wrap64 (x148001 + x148002)) then (some (0, 1)) else (some (wrap64 (x1 - x148002), 0)))
def foolscapref06_line.f (k : Nat) (a0_0 : Int) (a0_1 : Int) (a0_2 : Int) (a1 : Int) : Option (Int × Int) := if a1 < a0_1 then (some (a1, 0)) else (if a0_0 = 1 then (foolscapref06_line.j0 k a1 true a0_0 a0_1 a0_2) else (foolscapref06_line.j0 k a1 (a0_0 == 3) a0_0 a0_1 a0_2))
theorem foolscapref06_line.calls (k : Nat) (a0_0 : Int) (a0_1 : Int) (a0_2 : Int) (a1 : Int) (r1 : Int) (r2 : Int) (w : World) (h : foolscapref06_line.f k a0_0 a0_1 a0_2 a1 = some (r1, r2)) :
  Calls Tryz.prog 117 #[.agg #[.int .i64 a0_0, .int .i64 a0_1, .int .i64 a0_2], .int .i64 a1] w fun e w' => e = .returned (.tuple #[.int .i64 r1, .int .i64 r2]) ∧ Below w.heap.size w w' := by
 have hu47 := Tryz.underlying47
 have HB := Aside0.mk (Below.refl w.heap.size w)
 have H : (if a1 < a0_1 then (some (a1, 0)) else (if a0_0 = 1 then (foolscapref06_line.j0 k a1 true a0_0 a0_1 a0_2) else (foolscapref06_line.j0 k a1 (a0_0 == 3) a0_0 a0_1 a0_2))) = some (r1, r2) := h
 clear h
 by_cases c3 : a1 < a0_1
 ·rw [if_pos c3] at H
  have c3b0 : decide (a1 < a0_1) = true := decide_eq_true c3
  clear c3
  simp only [Option.some.injEq, Prod.mk.injEq] at H
  obtain ⟨rfl, rfl⟩ := H
  go_enter Tryz.func117, Tryz.ntmps117
  go_wp2_with (first | ((with_reducible refine gate_dst (N := 2) rfl ?_); refine boxE 2 47 (#[.int .i64 a0_0, .int .i64 a0_1, .int .i64 a0_2]) ?_; intro gb147 hg w4 hbox hb; have n0_ := Aside0.mk (below_step (hbA) hb); have n1_ := Aside0.mk (hbox); have n2_ := Aside0.mk ((by rw [hg]; exact (below_size (hbA)) : w.heap.size ≤ gb147)); have n3_ := n2_; clear HB; have HB := n0_; have BK147 := n1_; have GW147 := n2_; have GE147 := n3_; clear n0_ n1_ n2_ n3_; clear hb hbox hg; obtain ⟨hcz5_0, hcz5_1, hcz5_2⟩ := cellsA3 BK147.out; obtain ⟨hfz5_0, hfz5_1, hfz5_2⟩ := frozA3 BK147.out))
  go_ret2
  exact ⟨rflE, hbA⟩
 ·rw [if_neg c3] at H
  have c3b0 : decide (a1 < a0_1) = false := decide_eq_false c3
  clear c3
  have HC6 := Aside0.mk H
  clear H
  go_enter Tryz.func117, Tryz.ntmps117
  go_upto_region 3 with (first | ((with_reducible refine gate_dst (N := 2) rfl ?_); refine boxE 2 47 (#[.int .i64 a0_0, .int .i64 a0_1, .int .i64 a0_2]) ?_; intro gb147 hg w7 hbox hb; have n0_ := Aside0.mk (below_step (hbA) hb); have n1_ := Aside0.mk (hbox); have n2_ := Aside0.mk ((by rw [hg]; exact (below_size (hbA)) : w.heap.size ≤ gb147)); have n3_ := n2_; clear HB; have HB := n0_; have BK147 := n1_; have GW147 := n2_; have GE147 := n3_; clear n0_ n1_ n2_ n3_; clear hb hbox hg; obtain ⟨hcz8_0, hcz8_1, hcz8_2⟩ := cellsA3 BK147.out; obtain ⟨hfz8_0, hfz8_1, hfz8_2⟩ := frozA3 BK147.out))
  (try simp only [Act.put, List.setIfInBounds_toArray, List.set_cons_zero, List.set_cons_succ])
  go_cut [18] (fun v18 wc => ∃ (kq : Nat) (x18_5 : Bool), v18 = .bool x18_5 ∧ Aside0 (foolscapref06_line.j0 kq a1 x18_5 a0_0 a0_1 a0_2 = some (r1, r2)) ∧ Aside0 (kq ≤ k) ∧ Aside0 (wc.heap[gb147]? = some (.cells #[.int .i64 a0_0, .int .i64 a0_1, .int .i64 a0_2] 47 (0, 0))) ∧ Aside0 (Below w.heap.size w wc))
  case first =>
   have H := HC6.out
   clear HC6
   by_cases c9 : a0_0 = 1
   ·rw [if_pos c9] at H
    have c9b0 : (a0_0 == 1) = true := beq_iff_eq.mpr c9
    have c9b1 : (a0_0 != 1) = false := bne_eq_false_iff_eq.mpr c9
    clear c9
    (first | rw [c9b0] | (simp only [i64_w, i32_w]; rw [c9b0]) | skip)
    have H' := Aside0.mk H
    clear H
    obtain ⟨hcz10_0, hcz10_1, hcz10_2⟩ := cellsA3 BK147.out
    obtain ⟨hfz10_0, hfz10_1, hfz10_2⟩ := frozA3 BK147.out
    go_wp2
    go_meet
    case rel => exact ⟨_, (true), (rflS), H', ⟨by first | omega | exact Nat.le_refl _⟩, ⟨have bk_ := BK147.out; bkA⟩, ⟨hbA⟩⟩
   ·rw [if_neg c9] at H
    have c9b0 : (a0_0 == 1) = false := beq_eq_false_iff_ne.mpr c9
    have c9b1 : (a0_0 != 1) = true := bne_iff_ne.mpr c9
    (first | rw [c9b0] | (simp only [i64_w, i32_w]; rw [c9b0]) | skip)
    have H' := Aside0.mk H
    clear H
    obtain ⟨hcz11_0, hcz11_1, hcz11_2⟩ := cellsA3 BK147.out
    obtain ⟨hfz11_0, hfz11_1, hfz11_2⟩ := frozA3 BK147.out
    go_wp2
    go_meet
    case rel => exact ⟨_, ((a0_0 == 3)), (rflS), H', ⟨by first | omega | exact Nat.le_refl _⟩, ⟨have bk_ := BK147.out; bkA⟩, ⟨hbA⟩⟩
  case rest =>
   clear HC6
   try clear c1
   try clear p2
   try clear c3
   try clear c3b0
   try clear c9
   try clear c9b0
   try clear c9b1
   try clear c11
   try clear hcz10_0
   try clear hcz10_1
   try clear hcz10_2
   try clear hcz11_0
   try clear hcz11_1
   try clear hcz11_2
   try clear hcz5_0
   try clear hcz5_1
   try clear hcz5_2
   try clear hcz8_0
   try clear hcz8_1
   try clear hcz8_2
   try clear hfz10_0
   try clear hfz10_1
   try clear hfz10_2
   try clear hfz11_0
   try clear hfz11_1
   try clear hfz11_2
   try clear hfz5_0
   try clear hfz5_1
   try clear hfz5_2
   try clear hfz8_0
   try clear hfz8_1
   try clear hfz8_2
   obtain ⟨kq, x18_5, rfl, HA, HJ5, BK147, HB⟩ := hcut
   cases kq with
   | zero => exact absurd HA.out (by simp [foolscapref06_line.j0])
   | succ kj5 =>
    have H := HA.out
    clear HA
    simp only [foolscapref06_line.j0] at H
    by_cases c12 : x18_5 = true
    ·subst c12
     have H1 : ((foolscapref06_most.f a0_0 a0_1 a0_2).bind fun t148 => (if (wrap64 (a1 + a0_2)) > t148 then (some (0, 2)) else (some (wrap64 (a1 + a0_2), 0)))) = some (r1, r2) := by rw [if_pos rfl] at H; exact H
     clear H
     have H := H1
     clear H1
     replace H := Option.bind_eq_some_iff.mp H
     obtain ⟨t148, A130, H⟩ := H
     replace H : (if (wrap64 (a1 + a0_2)) > t148 then (some (0, 2)) else (some (wrap64 (a1 + a0_2), 0))) = some (r1, r2) := H
     have A13 := Aside0.mk A130
     clear A130
     by_cases c14 : (wrap64 (a1 + a0_2)) > t148
     ·rw [if_pos c14] at H
      have c14b0 : decide (t148 < (wrap64 (a1 + a0_2))) = true := decide_eq_true c14
      clear c14
      simp only [Option.some.injEq, Prod.mk.injEq] at H
      obtain ⟨rfl, rfl⟩ := H
      try go_wp2
      have n0_ := Aside0.mk (bqY BK147.out)
      have n1_ := Aside0.mk (bqD HB.out)
      clear BK147
      clear HB
      have BK147 := n0_
      have HB := n1_
      clear n0_ n1_
      refine start_ (n := 7) (S := fun w' => w'.cell? ⟨gb147, 0, none⟩ = some (.int .i64 a0_0) ∧ w'.cell? ⟨gb147, 1, none⟩ = some (.int .i64 a0_1) ∧ w'.cell? ⟨gb147, 2, none⟩ = some (.int .i64 a0_2)) (ds := []) (Array.replicate 7 false) (by kernel_rfl) rfl rfl ⟨(blk_cell BK147.out 0).trans rfl, (blk_cell BK147.out 1).trans rfl, (blk_cell BK147.out 2).trans rfl⟩ (fun hHeld => ?_)
      generalize wc.drew = w15 at BK147 HB hHeld ⊢
      refine pure_ (i := 0) (N := some 19) (v := ?_) (a' := ?_) #[true, false, false, false, false, false, false] rfl rfl (by kernel_rfl) (fun _ _ _ h => h) (Or.inl ⟨by rfl, ?_⟩) ?_ ?_
      rotate_left
      ·intro w'
       go_simp
       with_reducible rfl
      rotate_left
      ·simp only [Act.put, List.setIfInBounds_toArray, List.set_cons_zero, List.set_cons_succ, i64_w, i32_w]
       rfl
      refine pure_ (i := 1) (N := some 20) (v := ?_) (a' := ?_) #[true, true, false, false, false, false, false] rfl rfl (by kernel_rfl) (fun _ _ _ h => h) (Or.inl ⟨by rfl, ?_⟩) ?_ ?_
      rotate_left
      ·intro w'
       go_simp
       with_reducible rfl
      rotate_left
      ·simp only [Act.put, List.setIfInBounds_toArray, List.set_cons_zero, List.set_cons_succ, i64_w, i32_w]
       rfl
      refine take_ (i := 2) (N := some 21) (v := ?_) (a' := ?_) #[true, true, true, false, false, false, false] rfl rfl (by kernel_rfl) (fun _ _ _ h => h) (Or.inl ⟨by rfl, ?_⟩) hHeld ?_ ?_
      rotate_left
      ·rintro w' ⟨s0, s1, s2⟩
       go_simp
       with_reducible rfl
      rotate_left
      ·simp only [Act.put, List.setIfInBounds_toArray, List.set_cons_zero, List.set_cons_succ, i64_w, i32_w]
       rfl
      refine pure_ (i := 3) (N := some 22) (v := ?_) (a' := ?_) #[true, true, true, true, false, false, false] rfl rfl (by kernel_rfl) (fun _ _ _ h => h) (Or.inl ⟨by rfl, ?_⟩) ?_ ?_
      rotate_left
      ·intro w'
       go_simp
       with_reducible rfl
      rotate_left
      ·simp only [Act.put, List.setIfInBounds_toArray, List.set_cons_zero, List.set_cons_succ, i64_w, i32_w]
       rfl
      refine take_ (i := 4) (N := some 23) (v := ?_) (a' := ?_) #[true, true, true, true, true, false, false] rfl rfl (by kernel_rfl) (fun _ _ _ h => h) (Or.inl ⟨by rfl, ?_⟩) hHeld ?_ ?_
      rotate_left
      ·rintro w' ⟨s0, s1, s2⟩
       go_simp
       with_reducible rfl
      rotate_left
      ·simp only [Act.put, List.setIfInBounds_toArray, List.set_cons_zero, List.set_cons_succ, i64_w, i32_w]
       rfl
      refine one_ (i := 5) (N := some 24) #[true, true, true, true, true, true, false] rfl rfl (by kernel_rfl) (by decide) (fun K hK => ?_)
      refine goes_ Tryz.func99 (by kernel_rfl) rfl #[.agg #[.int .i64 a0_0, .int .i64 a0_1, .int .i64 a0_2]] (by rfl) rfl rfl argA ?_
      with_reducible refine (foolscapref06_most.calls a0_0 a0_1 a0_2 t148 _ A13.out).mono ?_
      rintro e w16 ⟨rfl, hb⟩
      refine ⟨_, rfl, ?_⟩
      have n0_ := Aside0.mk (blk_below (g := gb147) (o := .cells #[.int .i64 a0_0, .int .i64 a0_1, .int .i64 a0_2] 47 (0, 0)) (have bk_ := BK147.out; bkA) hb)
      have n1_ := Aside0.mk (below_step (hbA) hb)
      clear BK147
      clear HB
      have BK147 := n0_
      have HB := n1_
      clear n0_ n1_
      (try clear hb)
      (try clear hb2)
      (try clear hk)
      (try clear hi)
      refine hK.out _ _ ⟨(blk_cell BK147.out 0).trans rfl, (blk_cell BK147.out 1).trans rfl, (blk_cell BK147.out 2).trans rfl⟩ (fun hHeld => ?_)
      clear hK K
      refine norm_ (a' := ?_) ?_ ?_
      rotate_left
      ·show Act.put _ (some 24) _ = _
       simp only [Act.put, List.setIfInBounds_toArray, List.set_cons_zero, List.set_cons_succ, i64_w, i32_w]
       rfl
      refine pure_ (i := 6) (N := some 25) (v := ?_) (a' := ?_) #[true, true, true, true, true, true, true] rfl rfl (by kernel_rfl) (fun _ _ _ h => h) (Or.inl ⟨by rfl, ?_⟩) ?_ ?_
      rotate_left
      ·intro w'
       go_simp
       with_reducible rfl
      rotate_left
      ·simp only [Act.put, List.setIfInBounds_toArray, List.set_cons_zero, List.set_cons_succ, i64_w, i32_w]
       rfl
      refine done_ (by kernel_rfl) ?_
      try go_wp2
      go_ret2
      exact ⟨rflE, hbA⟩
     ·rw [if_neg c14] at H
      have c14b0 : decide (t148 < (wrap64 (a1 + a0_2))) = false := decide_eq_false c14
      clear c14
      simp only [Option.some.injEq, Prod.mk.injEq] at H
      obtain ⟨rfl, rfl⟩ := H
      try go_wp2
      have n0_ := Aside0.mk (bqY BK147.out)
      have n1_ := Aside0.mk (bqD HB.out)
      clear BK147
      clear HB
      have BK147 := n0_
      have HB := n1_
      clear n0_ n1_
      refine start_ (n := 7) (S := fun w' => w'.cell? ⟨gb147, 0, none⟩ = some (.int .i64 a0_0) ∧ w'.cell? ⟨gb147, 1, none⟩ = some (.int .i64 a0_1) ∧ w'.cell? ⟨gb147, 2, none⟩ = some (.int .i64 a0_2)) (ds := []) (Array.replicate 7 false) (by kernel_rfl) rfl rfl ⟨(blk_cell BK147.out 0).trans rfl, (blk_cell BK147.out 1).trans rfl, (blk_cell BK147.out 2).trans rfl⟩ (fun hHeld => ?_)
      generalize wc.drew = w17 at BK147 HB hHeld ⊢
      refine pure_ (i := 0) (N := some 19) (v := ?_) (a' := ?_) #[true, false, false, false, false, false, false] rfl rfl (by kernel_rfl) (fun _ _ _ h => h) (Or.inl ⟨by rfl, ?_⟩) ?_ ?_
      rotate_left
      ·intro w'
       go_simp
       with_reducible rfl
      rotate_left
      ·simp only [Act.put, List.setIfInBounds_toArray, List.set_cons_zero, List.set_cons_succ, i64_w, i32_w]
       rfl
      refine pure_ (i := 1) (N := some 20) (v := ?_) (a' := ?_) #[true, true, false, false, false, false, false] rfl rfl (by kernel_rfl) (fun _ _ _ h => h) (Or.inl ⟨by rfl, ?_⟩) ?_ ?_
      rotate_left
      ·intro w'
       go_simp
       with_reducible rfl
      rotate_left
      ·simp only [Act.put, List.setIfInBounds_toArray, List.set_cons_zero, List.set_cons_succ, i64_w, i32_w]
       rfl
      refine take_ (i := 2) (N := some 21) (v := ?_) (a' := ?_) #[true, true, true, false, false, false, false] rfl rfl (by kernel_rfl) (fun _ _ _ h => h) (Or.inl ⟨by rfl, ?_⟩) hHeld ?_ ?_
      rotate_left
      ·rintro w' ⟨s0, s1, s2⟩
       go_simp
       with_reducible rfl
      rotate_left
      ·simp only [Act.put, List.setIfInBounds_toArray, List.set_cons_zero, List.set_cons_succ, i64_w, i32_w]
       rfl
      refine pure_ (i := 3) (N := some 22) (v := ?_) (a' := ?_) #[true, true, true, true, false, false, false] rfl rfl (by kernel_rfl) (fun _ _ _ h => h) (Or.inl ⟨by rfl, ?_⟩) ?_ ?_
      rotate_left
      ·intro w'
       go_simp
       with_reducible rfl
      rotate_left
      ·simp only [Act.put, List.setIfInBounds_toArray, List.set_cons_zero, List.set_cons_succ, i64_w, i32_w]
       rfl
      refine take_ (i := 4) (N := some 23) (v := ?_) (a' := ?_) #[true, true, true, true, true, false, false] rfl rfl (by kernel_rfl) (fun _ _ _ h => h) (Or.inl ⟨by rfl, ?_⟩) hHeld ?_ ?_
      rotate_left
      ·rintro w' ⟨s0, s1, s2⟩
       go_simp
       with_reducible rfl
      rotate_left
      ·simp only [Act.put, List.setIfInBounds_toArray, List.set_cons_zero, List.set_cons_succ, i64_w, i32_w]
       rfl
      refine one_ (i := 5) (N := some 24) #[true, true, true, true, true, true, false] rfl rfl (by kernel_rfl) (by decide) (fun K hK => ?_)
      refine goes_ Tryz.func99 (by kernel_rfl) rfl #[.agg #[.int .i64 a0_0, .int .i64 a0_1, .int .i64 a0_2]] (by rfl) rfl rfl argA ?_
      with_reducible refine (foolscapref06_most.calls a0_0 a0_1 a0_2 t148 _ A13.out).mono ?_
      rintro e w18 ⟨rfl, hb⟩
      refine ⟨_, rfl, ?_⟩
      have n0_ := Aside0.mk (blk_below (g := gb147) (o := .cells #[.int .i64 a0_0, .int .i64 a0_1, .int .i64 a0_2] 47 (0, 0)) (have bk_ := BK147.out; bkA) hb)
      have n1_ := Aside0.mk (below_step (hbA) hb)
      clear BK147
      clear HB
      have BK147 := n0_
      have HB := n1_
      clear n0_ n1_
      (try clear hb)
      (try clear hb2)
      (try clear hk)
      (try clear hi)
      refine hK.out _ _ ⟨(blk_cell BK147.out 0).trans rfl, (blk_cell BK147.out 1).trans rfl, (blk_cell BK147.out 2).trans rfl⟩ (fun hHeld => ?_)
      clear hK K
      refine norm_ (a' := ?_) ?_ ?_
      rotate_left
      ·show Act.put _ (some 24) _ = _
       simp only [Act.put, List.setIfInBounds_toArray, List.set_cons_zero, List.set_cons_succ, i64_w, i32_w]
       rfl
      refine pure_ (i := 6) (N := some 25) (v := ?_) (a' := ?_) #[true, true, true, true, true, true, true] rfl rfl (by kernel_rfl) (fun _ _ _ h => h) (Or.inl ⟨by rfl, ?_⟩) ?_ ?_
      rotate_left
      ·intro w'
       go_simp
       with_reducible rfl
      rotate_left
      ·simp only [Act.put, List.setIfInBounds_toArray, List.set_cons_zero, List.set_cons_succ, i64_w, i32_w]
       rfl
      refine done_ (by kernel_rfl) ?_
      obtain ⟨hcz19_0, hcz19_1, hcz19_2⟩ := cellsA3 BK147.out
      obtain ⟨hfz19_0, hfz19_1, hfz19_2⟩ := frozA3 BK147.out
      try go_wp2
      go_ret2
      exact ⟨rflE, hbA⟩
    ·replace c12 := Bool.eq_false_iff.mpr c12
     subst c12
     have H1 : (if a1 < (wrap64 (a0_1 + a0_2)) then (some (0, 1)) else (some (wrap64 (a1 - a0_2), 0))) = some (r1, r2) := by rw [if_neg (show ¬ (false = true) by decide)] at H; exact H
     clear H
     have H := H1
     clear H1
     by_cases c20 : a1 < (wrap64 (a0_1 + a0_2))
     ·rw [if_pos c20] at H
      have c20b0 : decide (a1 < (wrap64 (a0_1 + a0_2))) = true := decide_eq_true c20
      clear c20
      simp only [Option.some.injEq, Prod.mk.injEq] at H
      obtain ⟨rfl, rfl⟩ := H
      obtain ⟨hcz21_0, hcz21_1, hcz21_2⟩ := cellsA3 BK147.out
      obtain ⟨hfz21_0, hfz21_1, hfz21_2⟩ := frozA3 BK147.out
      go_wp2
      go_ret2
      exact ⟨rflE, hbA⟩
     ·rw [if_neg c20] at H
      have c20b0 : decide (a1 < (wrap64 (a0_1 + a0_2))) = false := decide_eq_false c20
      clear c20
      simp only [Option.some.injEq, Prod.mk.injEq] at H
      obtain ⟨rfl, rfl⟩ := H
      obtain ⟨hcz22_0, hcz22_1, hcz22_2⟩ := cellsA3 BK147.out
      obtain ⟨hfz22_0, hfz22_1, hfz22_2⟩ := frozA3 BK147.out
      go_wp2
      go_ret2
      exact ⟨rflE, hbA⟩
def foolscapref05_Right.f (a0_0 : Int) (a0_1 : Int) (a0_2 : Int) (a0_3 : Int) : Option (Bool) := (foolscapref05_Place.f a0_0 a0_1).bind fun t160 => (if t160 = true then ((foolscapref05_Place.f a0_2 a0_3).bind fun t161 => (if t161 = true then (if a0_0 ≤ a0_2 then (some (decide (a0_1 ≤ a0_3))) else (some false)) else (some false))) else (some false))
theorem foolscapref05_Right.calls (a0_0 : Int) (a0_1 : Int) (a0_2 : Int) (a0_3 : Int) (r : Bool) (w : World) (h : foolscapref05_Right.f a0_0 a0_1 a0_2 a0_3 = some r) :
  Calls Tryz.prog 118 #[.agg #[.int .i64 a0_0, .int .i64 a0_1, .int .i64 a0_2, .int .i64 a0_3]] w fun e w' => e = .returned (.bool r) ∧ Below w.heap.size w w' := by
 have hu64 := Tryz.underlying64
 have hu28 := Tryz.underlying28
 have HB := Aside0.mk (Below.refl w.heap.size w)
 have H : ((foolscapref05_Place.f a0_0 a0_1).bind fun t160 => (if t160 = true then ((foolscapref05_Place.f a0_2 a0_3).bind fun t161 => (if t161 = true then (if a0_0 ≤ a0_2 then (some (decide (a0_1 ≤ a0_3))) else (some false)) else (some false))) else (some false))) = some r := h
 clear h
 replace H := Option.bind_eq_some_iff.mp H
 obtain ⟨t160, A20, H⟩ := H
 replace H : (if t160 = true then ((foolscapref05_Place.f a0_2 a0_3).bind fun t161 => (if t161 = true then (if a0_0 ≤ a0_2 then (some (decide (a0_1 ≤ a0_3))) else (some false)) else (some false))) else (some false)) = some r := H
 have A2 := Aside0.mk A20
 clear A20
 by_cases c3 : t160 = true
 ·subst c3
  have H1 : ((foolscapref05_Place.f a0_2 a0_3).bind fun t161 => (if t161 = true then (if a0_0 ≤ a0_2 then (some (decide (a0_1 ≤ a0_3))) else (some false)) else (some false))) = some r := by rw [if_pos rfl] at H; exact H
  clear H
  have H := H1
  clear H1
  replace H := Option.bind_eq_some_iff.mp H
  obtain ⟨t161, A40, H⟩ := H
  replace H : (if t161 = true then (if a0_0 ≤ a0_2 then (some (decide (a0_1 ≤ a0_3))) else (some false)) else (some false)) = some r := H
  have A4 := Aside0.mk A40
  clear A40
  by_cases c5 : t161 = true
  ·subst c5
   have H1 : (if a0_0 ≤ a0_2 then (some (decide (a0_1 ≤ a0_3))) else (some false)) = some r := by rw [if_pos rfl] at H; exact H
   clear H
   have H := H1
   clear H1
   by_cases c6 : a0_0 ≤ a0_2
   ·rw [if_pos c6] at H
    have c6b0 : decide (a0_0 ≤ a0_2) = true := decide_eq_true c6
    clear c6
    obtain rfl := Option.some.inj H
    go_enter Tryz.func118, Tryz.ntmps118
    go_wp2_with (first | ((with_reducible refine gate_dst (N := 1) rfl ?_); refine boxE 1 64 (#[.int .i64 a0_0, .int .i64 a0_1, .int .i64 a0_2, .int .i64 a0_3]) ?_; intro gb159 hg w7 hbox hb; have n0_ := Aside0.mk (below_step (hbA) hb); have n1_ := Aside0.mk (hbox); have n2_ := Aside0.mk ((by rw [hg]; exact (below_size (hbA)) : w.heap.size ≤ gb159)); have n3_ := n2_; clear HB; have HB := n0_; have BK159 := n1_; have GW159 := n2_; have GE159 := n3_; clear n0_ n1_ n2_ n3_; clear hb hbox hg; obtain ⟨hcz8_0, hcz8_1, hcz8_2, hcz8_3⟩ := cellsA4 BK159.out; obtain ⟨hfz8_0, hfz8_1, hfz8_2, hfz8_3⟩ := frozA4 BK159.out) | ((with_reducible refine gate_callee (f := 66) rfl ?_); refine goesL_ (some 8) rfl rfl Tryz.func66 (by kernel_rfl) rfl #[.agg #[.int .i64 a0_0, .int .i64 a0_1]] rfl argA ?_; (with_reducible refine (foolscapref05_Place.calls a0_0 a0_1 true _ A2.out).mono ?_); rintro e w9 ⟨rfl, hb⟩; refine ⟨_, rfl, ?_⟩; have n0_ := Aside0.mk (blk_below (g := gb159) (o := .cells #[.int .i64 a0_0, .int .i64 a0_1, .int .i64 a0_2, .int .i64 a0_3] 64 (0, 0)) (have bk_ := BK159.out; bkA) hb); have n1_ := Aside0.mk (below_step (hbA) hb); clear BK159; clear HB; have BK159 := n0_; have HB := n1_; clear n0_ n1_; (try clear hb); (try clear hb2); (try clear hk); (try clear hi); obtain ⟨hcz10_0, hcz10_1, hcz10_2, hcz10_3⟩ := cellsA4 BK159.out; obtain ⟨hfz10_0, hfz10_1, hfz10_2, hfz10_3⟩ := frozA4 BK159.out) | (go_at_call 66; (with_reducible refine (foolscapref05_Place.calls a0_2 a0_3 true _ A4.out).mono ?_); rintro e w11 ⟨rfl, hb⟩; have n0_ := Aside0.mk (blk_below (g := gb159) (o := .cells #[.int .i64 a0_0, .int .i64 a0_1, .int .i64 a0_2, .int .i64 a0_3] 64 (0, 0)) (have bk_ := BK159.out; bkA) hb); have n1_ := Aside0.mk (below_step (hbA) hb); clear BK159; clear HB; have BK159 := n0_; have HB := n1_; clear n0_ n1_; (try clear hb); (try clear hb2); (try clear hk); (try clear hi); obtain ⟨hcz12_0, hcz12_1, hcz12_2, hcz12_3⟩ := cellsA4 BK159.out; obtain ⟨hfz12_0, hfz12_1, hfz12_2, hfz12_3⟩ := frozA4 BK159.out))
    go_ret
    exact ⟨rflE, hbA⟩
   ·rw [if_neg c6] at H
    have c6b0 : decide (a0_0 ≤ a0_2) = false := decide_eq_false c6
    clear c6
    obtain rfl := Option.some.inj H
    go_enter Tryz.func118, Tryz.ntmps118
    go_wp2_with (first | ((with_reducible refine gate_dst (N := 1) rfl ?_); refine boxE 1 64 (#[.int .i64 a0_0, .int .i64 a0_1, .int .i64 a0_2, .int .i64 a0_3]) ?_; intro gb159 hg w13 hbox hb; have n0_ := Aside0.mk (below_step (hbA) hb); have n1_ := Aside0.mk (hbox); have n2_ := Aside0.mk ((by rw [hg]; exact (below_size (hbA)) : w.heap.size ≤ gb159)); have n3_ := n2_; clear HB; have HB := n0_; have BK159 := n1_; have GW159 := n2_; have GE159 := n3_; clear n0_ n1_ n2_ n3_; clear hb hbox hg; obtain ⟨hcz14_0, hcz14_1, hcz14_2, hcz14_3⟩ := cellsA4 BK159.out; obtain ⟨hfz14_0, hfz14_1, hfz14_2, hfz14_3⟩ := frozA4 BK159.out) | ((with_reducible refine gate_callee (f := 66) rfl ?_); refine goesL_ (some 8) rfl rfl Tryz.func66 (by kernel_rfl) rfl #[.agg #[.int .i64 a0_0, .int .i64 a0_1]] rfl argA ?_; (with_reducible refine (foolscapref05_Place.calls a0_0 a0_1 true _ A2.out).mono ?_); rintro e w15 ⟨rfl, hb⟩; refine ⟨_, rfl, ?_⟩; have n0_ := Aside0.mk (blk_below (g := gb159) (o := .cells #[.int .i64 a0_0, .int .i64 a0_1, .int .i64 a0_2, .int .i64 a0_3] 64 (0, 0)) (have bk_ := BK159.out; bkA) hb); have n1_ := Aside0.mk (below_step (hbA) hb); clear BK159; clear HB; have BK159 := n0_; have HB := n1_; clear n0_ n1_; (try clear hb); (try clear hb2); (try clear hk); (try clear hi); obtain ⟨hcz16_0, hcz16_1, hcz16_2, hcz16_3⟩ := cellsA4 BK159.out; obtain ⟨hfz16_0, hfz16_1, hfz16_2, hfz16_3⟩ := frozA4 BK159.out) | (go_at_call 66; (with_reducible refine (foolscapref05_Place.calls a0_2 a0_3 true _ A4.out).mono ?_); rintro e w17 ⟨rfl, hb⟩; have n0_ := Aside0.mk (blk_below (g := gb159) (o := .cells #[.int .i64 a0_0, .int .i64 a0_1, .int .i64 a0_2, .int .i64 a0_3] 64 (0, 0)) (have bk_ := BK159.out; bkA) hb); have n1_ := Aside0.mk (below_step (hbA) hb); clear BK159; clear HB; have BK159 := n0_; have HB := n1_; clear n0_ n1_; (try clear hb); (try clear hb2); (try clear hk); (try clear hi); obtain ⟨hcz18_0, hcz18_1, hcz18_2, hcz18_3⟩ := cellsA4 BK159.out; obtain ⟨hfz18_0, hfz18_1, hfz18_2, hfz18_3⟩ := frozA4 BK159.out))
    go_ret
    exact ⟨rflE, hbA⟩
  ·replace c5 := Bool.eq_false_iff.mpr c5
   subst c5
   have H1 : (some false) = some r := by rw [if_neg (show ¬ (false = true) by decide)] at H; exact H
   clear H
   have H := H1
   clear H1
   obtain rfl := Option.some.inj H
   go_enter Tryz.func118, Tryz.ntmps118
   go_wp2_with (first | ((with_reducible refine gate_dst (N := 1) rfl ?_); refine boxE 1 64 (#[.int .i64 a0_0, .int .i64 a0_1, .int .i64 a0_2, .int .i64 a0_3]) ?_; intro gb159 hg w19 hbox hb; have n0_ := Aside0.mk (below_step (hbA) hb); have n1_ := Aside0.mk (hbox); have n2_ := Aside0.mk ((by rw [hg]; exact (below_size (hbA)) : w.heap.size ≤ gb159)); have n3_ := n2_; clear HB; have HB := n0_; have BK159 := n1_; have GW159 := n2_; have GE159 := n3_; clear n0_ n1_ n2_ n3_; clear hb hbox hg; obtain ⟨hcz20_0, hcz20_1, hcz20_2, hcz20_3⟩ := cellsA4 BK159.out; obtain ⟨hfz20_0, hfz20_1, hfz20_2, hfz20_3⟩ := frozA4 BK159.out) | ((with_reducible refine gate_callee (f := 66) rfl ?_); refine goesL_ (some 8) rfl rfl Tryz.func66 (by kernel_rfl) rfl #[.agg #[.int .i64 a0_0, .int .i64 a0_1]] rfl argA ?_; (with_reducible refine (foolscapref05_Place.calls a0_0 a0_1 true _ A2.out).mono ?_); rintro e w21 ⟨rfl, hb⟩; refine ⟨_, rfl, ?_⟩; have n0_ := Aside0.mk (blk_below (g := gb159) (o := .cells #[.int .i64 a0_0, .int .i64 a0_1, .int .i64 a0_2, .int .i64 a0_3] 64 (0, 0)) (have bk_ := BK159.out; bkA) hb); have n1_ := Aside0.mk (below_step (hbA) hb); clear BK159; clear HB; have BK159 := n0_; have HB := n1_; clear n0_ n1_; (try clear hb); (try clear hb2); (try clear hk); (try clear hi); obtain ⟨hcz22_0, hcz22_1, hcz22_2, hcz22_3⟩ := cellsA4 BK159.out; obtain ⟨hfz22_0, hfz22_1, hfz22_2, hfz22_3⟩ := frozA4 BK159.out) | (go_at_call 66; (with_reducible refine (foolscapref05_Place.calls a0_2 a0_3 false _ A4.out).mono ?_); rintro e w23 ⟨rfl, hb⟩; have n0_ := Aside0.mk (blk_below (g := gb159) (o := .cells #[.int .i64 a0_0, .int .i64 a0_1, .int .i64 a0_2, .int .i64 a0_3] 64 (0, 0)) (have bk_ := BK159.out; bkA) hb); have n1_ := Aside0.mk (below_step (hbA) hb); clear BK159; clear HB; have BK159 := n0_; have HB := n1_; clear n0_ n1_; (try clear hb); (try clear hb2); (try clear hk); (try clear hi)))
   go_ret
   exact ⟨rflE, hbA⟩
 ·replace c3 := Bool.eq_false_iff.mpr c3
  subst c3
  have H1 : (some false) = some r := by rw [if_neg (show ¬ (false = true) by decide)] at H; exact H
  clear H
  have H := H1
  clear H1
  obtain rfl := Option.some.inj H
  go_enter Tryz.func118, Tryz.ntmps118
  go_wp2_with (first | ((with_reducible refine gate_dst (N := 1) rfl ?_); refine boxE 1 64 (#[.int .i64 a0_0, .int .i64 a0_1, .int .i64 a0_2, .int .i64 a0_3]) ?_; intro gb159 hg w24 hbox hb; have n0_ := Aside0.mk (below_step (hbA) hb); have n1_ := Aside0.mk (hbox); have n2_ := Aside0.mk ((by rw [hg]; exact (below_size (hbA)) : w.heap.size ≤ gb159)); have n3_ := n2_; clear HB; have HB := n0_; have BK159 := n1_; have GW159 := n2_; have GE159 := n3_; clear n0_ n1_ n2_ n3_; clear hb hbox hg; obtain ⟨hcz25_0, hcz25_1, hcz25_2, hcz25_3⟩ := cellsA4 BK159.out; obtain ⟨hfz25_0, hfz25_1, hfz25_2, hfz25_3⟩ := frozA4 BK159.out) | ((with_reducible refine gate_callee (f := 66) rfl ?_); refine goesL_ (some 8) rfl rfl Tryz.func66 (by kernel_rfl) rfl #[.agg #[.int .i64 a0_0, .int .i64 a0_1]] rfl argA ?_; (with_reducible refine (foolscapref05_Place.calls a0_0 a0_1 false _ A2.out).mono ?_); rintro e w26 ⟨rfl, hb⟩; refine ⟨_, rfl, ?_⟩; have n0_ := Aside0.mk (blk_below (g := gb159) (o := .cells #[.int .i64 a0_0, .int .i64 a0_1, .int .i64 a0_2, .int .i64 a0_3] 64 (0, 0)) (have bk_ := BK159.out; bkA) hb); have n1_ := Aside0.mk (below_step (hbA) hb); clear BK159; clear HB; have BK159 := n0_; have HB := n1_; clear n0_ n1_; (try clear hb); (try clear hb2); (try clear hk); (try clear hi)))
  go_ret
  exact ⟨rflE, hbA⟩
end Go.Proofs.YthnldbclbfpojaaGreatDoor.Pr
end
