/-
  Lemmas for the law LexScansLexPairs.
-/
import Derived.Test.YtmppnobldhhpjaaGreatDoorSLexScansLexPairs4
import Derived.Test.YtmppnobldhhpjaaGreatDoorSLexScansLexPairs30
section
namespace Go.Proofs.YtmppnobldhhpjaaGreatDoor.Pr
open Go.RowKit Go.Proofs.YtmppnobldhhpjaaGreatDoorW.PrintWords Go.Proofs.YtmppnobldhhpjaaGreatDoorW.PrintLast Go.Proofs.YtmppnobldhhpjaaGreatDoorW.PrintMore
attribute [local go_sem] max2_int min2_int max_two min_two max_three min_three max_four min_four   -- for this text's walks alone
set_option linter.unusedVariables false
set_option linter.unusedSimpArgs false
attribute [local go_sem high] eqA45
def foolscapref07_Scan.l0 : Nat → ByteArray → List (S45) → Int → Option ((List (S45)) × Int × Int)
 | 0, _, _, _ => none
 | k + 1, x0, x5, x6 => if x6 < (x0.size : Int) then (if 0 ≤ x6 then (if (bt x0 x6) = 32 then (foolscapref07_Scan.l0 k x0 x5 (wrap64 (x6 + 1))) else ((foolscapref07_one.f k x0 x6).bind fun bt185 => (if bt185.2.2.2.2.2.2.2.2.2.2.2.2.2 = 0 then (if x5.length < 1353245080339 then (foolscapref07_Scan.l0 k x0 (x5 ++ [(⟨bt185.1, (⟨bt185.2.1, bt185.2.2.1, bt185.2.2.2.1, bt185.2.2.2.2.1, bt185.2.2.2.2.2.1⟩ : S39), (⟨(⟨bt185.2.2.2.2.2.2.1, bt185.2.2.2.2.2.2.2.1⟩ : S41), bt185.2.2.2.2.2.2.2.2.1, bt185.2.2.2.2.2.2.2.2.2.1⟩ : S43), bt185.2.2.2.2.2.2.2.2.2.2.1, bt185.2.2.2.2.2.2.2.2.2.2.2.1⟩ : S45)]) bt185.2.2.2.2.2.2.2.2.2.2.2.2.1) else (none)) else (some (([] : List (S45)), x6, bt185.2.2.2.2.2.2.2.2.2.2.2.2.2))))) else (none)) else (if x5.length < 1353245080339 then (some ((x5 ++ [(⟨0, (⟨0, 0, (⟨#[]⟩ : ByteArray), false, 0⟩ : S39), (⟨(⟨0, 0⟩ : S41), false, false⟩ : S43), (⟨#[]⟩ : ByteArray), (x0.size : Int)⟩ : S45)]), 0, 0)) else (none))
def foolscapref07_Scan.f (k : Nat) (a0 : ByteArray) : Option ((List (S45)) × Int × Int) := if (a0.size : Int) > 1024 then (some (([] : List (S45)), 0, 7)) else (foolscapref07_Scan.l0 k a0 ([] : List (S45)) 0)
set_option maxHeartbeats 8000000 in
set_option maxRecDepth 100000 in
theorem foolscapref07_Scan.calls (k : Nat) (a0 : ByteArray) (r1 : List (S45)) (r2 : Int) (r3 : Int) (w : World) (h : foolscapref07_Scan.f k a0 = some (r1, r2, r3)) :
  Calls Tryz.prog 9 #[.string a0] w fun e w' => ∃ v0_ : Value, e = .returned (.tuple #[v0_, .int .i64 r2, .int .i64 r3]) ∧ Kd.R k45 45 w' w.heap.size (fun _ => True) v0_ r1 ∧ Below w.heap.size w w' := by
 have hu45 := Tryz.underlying45
 have HB := Aside0.mk (Below.refl w.heap.size w)
 have H : (if (a0.size : Int) > 1024 then (some (([] : List (S45)), 0, 7)) else (foolscapref07_Scan.l0 k a0 ([] : List (S45)) 0)) = some (r1, r2, r3) := h
 clear h
 by_cases c2 : (a0.size : Int) > 1024
 ·rw [if_pos c2] at H
  have c2b0 : decide (1024 < (a0.size : Int)) = true := decide_eq_true c2
  have c2b1 : decide (1024 < a0.size) = true := decide_eq_true (by omega)
  clear c2
  simp only [Option.some.injEq, Prod.mk.injEq] at H
  obtain ⟨rfl, rfl, rfl⟩ := H
  go_enter Tryz.func9, Tryz.ntmps9
  go_wp2
  go_ret3
  exact ⟨_, by first | rfl | (simp [errW_none, errW_some] <;> rfl) | (simp [*, errW_none, errW_some] <;> rfl), by first | exact Kd.R_nil _ _ _ _ _ | exact Kd.N_nil _ _ _ _ _ | exact Kd.V_nil _ _ _ _ _ | exact Kd.Q_nil _ _ _ _ _ | exact Kd.S_nil _ _ _ _ _, by repeat (first | (with_reducible first | exact HB.out | apply bqA | apply bqN | apply bqD) | exact HB.out)⟩
 ·rw [if_neg c2] at H
  have c2b0 : decide (1024 < (a0.size : Int)) = false := decide_eq_false c2
  have c2b1 : decide (1024 < a0.size) = false := decide_eq_false (by omega)
  clear c2
  have H' := Aside0.mk H
  clear H
  go_enter Tryz.func9, Tryz.ntmps9
  go_wp2
  go_loopg [5, 6] k (fun kq v5 v6 w' => ∃ (x5_1 : List (S45)) (x6_1 : Int), v6 = .int .i64 x6_1 ∧ Aside0 (foolscapref07_Scan.l0 kq a0 x5_1 x6_1 = some (r1, r2, r3)) ∧ Aside0 (kq ≤ k) ∧ Aside0 (Kd.R k45 45 w' w.heap.size (fun _ => True) v5 x5_1) ∧ Aside0 (Below w.heap.size w w'))
  case atStart => exact ⟨(([] : List (S45))), (0), (by first | rfl | (simp; done) | (simp [*]; done)), H', ⟨Nat.le_refl _⟩, ⟨by first | exact Kd.R_nil _ _ _ _ _ | exact Kd.N_nil _ _ _ _ _ | exact Kd.V_nil _ _ _ _ _ | exact Kd.Q_nil _ _ _ _ _ | exact Kd.S_nil _ _ _ _ _⟩, ⟨by repeat (first | (with_reducible first | exact HB.out | apply bqA | apply bqN | apply bqD) | exact HB.out)⟩⟩
  case round =>
   clear H'
   try clear c2
   try clear c2b0
   try clear c2b1
   try clear p2
   obtain ⟨x5_1, x6_1, rfl, HA, HK1, HO_5, HB⟩ := hrel
   cases gk with
   | zero => exact absurd HA.out (by simp [foolscapref07_Scan.l0])
   | succ k1 =>
    have H := HA.out
    clear HA
    simp only [foolscapref07_Scan.l0] at H
    by_cases c3 : x6_1 < (a0.size : Int)
    ·rw [if_pos c3] at H
     have c3b0 : decide (x6_1 < (a0.size : Int)) = true := decide_eq_true c3
     clear c3
     by_cases c4 : 0 ≤ x6_1
     ·rw [if_pos c4] at H
      have c4b0 : decide (0 ≤ x6_1) = true := decide_eq_true c4
      clear c4
      by_cases c6 : (bt a0 x6_1) = 32
      ·rw [if_pos c6] at H
       have c6b0 : ((bt a0 x6_1) == 32) = true := beq_iff_eq.mpr c6
       have c6b1 : ((bt a0 x6_1) != 32) = false := bne_eq_false_iff_eq.mpr c6
       clear c6
       have H' := Aside0.mk H
       clear H
       have p5 : 0 ≤ (x6_1 : Int) := of_decide_eq_true (by first | (with_reducible assumption) | assumption)
       have q5 : x6_1 < (a0.size : Int) := of_decide_eq_true (by first | (with_reducible assumption) | assumption)
       have hx5 := bt_at a0 x6_1
       replace p5 := eq_true p5
       replace q5 := eq_true q5
       go_wp2
       go_roundg k1
       case measure => have := HK1.out; omega
       case rel => exact ⟨(x5_1), (wrap64 (x6_1 + 1)), (by first | rfl | (simp; done) | (simp [*]; done)), H', ⟨by have := HK1.out; omega⟩, ⟨by (with_reducible repeat (first | apply Kd.R_alloc | apply Kd.R_drewN | apply Kd.R_drew)); exact HO_5.out⟩, ⟨by repeat (first | (with_reducible first | exact HB.out | apply bqA | apply bqN | apply bqD) | exact HB.out)⟩⟩
      ·rw [if_neg c6] at H
       have c6b0 : ((bt a0 x6_1) == 32) = false := beq_eq_false_iff_ne.mpr c6
       have c6b1 : ((bt a0 x6_1) != 32) = true := bne_iff_ne.mpr c6
       replace H := Option.bind_eq_some_iff.mp H
       obtain ⟨⟨t185, t186, t187, t188, t189, t190, t191, t192, t193, t194, t195, t196, t197, t198⟩, A70, H⟩ := H
       replace H : (if t198 = 0 then (if x5_1.length < 1353245080339 then (foolscapref07_Scan.l0 k1 a0 (x5_1 ++ [(⟨t185, (⟨t186, t187, t188, t189, t190⟩ : S39), (⟨(⟨t191, t192⟩ : S41), t193, t194⟩ : S43), t195, t196⟩ : S45)]) t197) else (none)) else (some (([] : List (S45)), x6_1, t198))) = some (r1, r2, r3) := H
       have A7 := Aside0.mk A70
       clear A70
       by_cases c8 : t198 = 0
       ·rw [if_pos c8] at H
        have c8b0 : (t198 == 0) = true := beq_iff_eq.mpr c8
        have c8b1 : (t198 != 0) = false := bne_eq_false_iff_eq.mpr c8
        clear c8
        by_cases c9 : x5_1.length < 1353245080339
        ·rw [if_pos c9] at H
         have LMc9 := Aside0.mk c9
         clear c9
         obtain ⟨y200, hy200⟩ : ∃ y_ : List (S45), y_ = (x5_1 ++ [(⟨t185, (⟨t186, t187, t188, t189, t190⟩ : S39), (⟨(⟨t191, t192⟩ : S41), t193, t194⟩ : S43), t195, t196⟩ : S45)]) := ⟨_, rfl⟩
         replace H : (foolscapref07_Scan.l0 k1 a0 y200 t197) = some (r1, r2, r3) := by first | (rw [hy200]; with_reducible exact H) | (have H2_ := (Option.bind_some _ _).symm.trans H; rw [hy200]; with_reducible exact H2_) | (have H2_ := (Option.bind_some _ _).symm.trans H; with_reducible exact H2_) | with_reducible exact H | (rw [hy200]; exact H) | exact H
         have Ny200 := Aside0.mk hy200
         clear hy200
         have H' := Aside0.mk H
         clear H
         have p5 : 0 ≤ (x6_1 : Int) := of_decide_eq_true (by first | (with_reducible assumption) | assumption)
         have q5 : x6_1 < (a0.size : Int) := of_decide_eq_true (by first | (with_reducible assumption) | assumption)
         have hx5 := bt_at a0 x6_1
         replace p5 := eq_true p5
         replace q5 := eq_true q5
         go_wp2_with (first | ((with_reducible refine gate_callee (f := 15) rfl ?_); refine goesL_ (some 26) rfl rfl Tryz.func15 (by kernel_rfl) rfl #[.string a0, .int .i64 x6_1] rfl (by (try simp only [List.map_toArray, List.map_cons, List.map_nil]); first | done | rfl) ?_; (with_reducible refine (foolscapref07_one.calls k1 a0 x6_1 t185 t186 t187 t188 t189 t190 t191 t192 t193 t194 t195 t196 t197 t198 _ A7.out).mono ?_); rintro e w10 ⟨rfl, hb⟩; refine ⟨_, rfl, ?_⟩; have n0_ := Aside0.mk (Kd.R_below (by (with_reducible repeat (first | apply Kd.R_alloc | apply Kd.R_drewN | apply Kd.R_drew)); exact HO_5.out) hb); have n1_ := Aside0.mk (below_step (by repeat (first | (with_reducible first | exact HB.out | apply bqA | apply bqN | apply bqD) | exact HB.out)) hb); clear HO_5; clear HB; have HO_5 := n0_; have HB := n1_; clear n0_ n1_; (try clear hb); (try clear hb2); (try clear hk); (try clear hi)) | ((with_reducible refine gate_dst (N := 7) rfl ?_); refine box_event ?hg (N := 7) ?hd (cs := #[.int .i64 0, .int .i64 0, .int .i64 0, .string (⟨#[]⟩ : ByteArray), .bool false, .int .i64 0, .int .i64 0, .int .i64 0, .bool false, .bool false, .string (⟨#[]⟩ : ByteArray), .int .i64 0]) (t := 45) ?hr ?_; (case hd => rfl); (case hg => rfl); (case hr => first | (go_simp; done) | (go_simp; rfl)); intro gb199 hg w11 hbox hb; have n0_ := Aside0.mk (Kd.R_below (Kd.R_elderB (by (with_reducible repeat (first | apply Kd.R_alloc | apply Kd.R_drewN | apply Kd.R_drew)); exact HO_5.out) gb199 (Nat.le_of_eq hg.symm)) hb); have n1_ := Aside0.mk (below_step (by repeat (first | (with_reducible first | exact HB.out | apply bqA | apply bqN | apply bqD) | exact HB.out)) hb); have n2_ := Aside0.mk (hbox); have n3_ := Aside0.mk ((by rw [hg]; exact (below_size (by repeat (first | (with_reducible first | exact HB.out | apply bqA | apply bqN | apply bqD) | exact HB.out))) : w.heap.size ≤ gb199)); have n4_ := Aside0.mk ((by rw [hg]; exact (below_size (by repeat (first | (with_reducible first | exact HB.out | apply bqA | apply bqN | apply bqD) | exact HB.out))) : w.heap.size ≤ gb199)); clear HO_5; clear HB; have HO_5 := n0_; have HB := n1_; have BK199 := n2_; have GW199 := n3_; have GE199 := n4_; clear n0_ n1_ n2_ n3_ n4_; clear hb hbox hg; have hcz12_0 : w11.cell? ⟨gb199, 0, none⟩ = some (.int .i64 0) := (blk_cell BK199.out 0).trans rfl; have hcz12_1 : w11.cell? ⟨gb199, 1, none⟩ = some (.int .i64 0) := (blk_cell BK199.out 1).trans rfl; have hcz12_2 : w11.cell? ⟨gb199, 2, none⟩ = some (.int .i64 0) := (blk_cell BK199.out 2).trans rfl; have hcz12_3 : w11.cell? ⟨gb199, 3, none⟩ = some (.string (⟨#[]⟩ : ByteArray)) := (blk_cell BK199.out 3).trans rfl; have hcz12_4 : w11.cell? ⟨gb199, 4, none⟩ = some (.bool false) := (blk_cell BK199.out 4).trans rfl; have hcz12_5 : w11.cell? ⟨gb199, 5, none⟩ = some (.int .i64 0) := (blk_cell BK199.out 5).trans rfl; have hcz12_6 : w11.cell? ⟨gb199, 6, none⟩ = some (.int .i64 0) := (blk_cell BK199.out 6).trans rfl; have hcz12_7 : w11.cell? ⟨gb199, 7, none⟩ = some (.int .i64 0) := (blk_cell BK199.out 7).trans rfl; have hcz12_8 : w11.cell? ⟨gb199, 8, none⟩ = some (.bool false) := (blk_cell BK199.out 8).trans rfl; have hcz12_9 : w11.cell? ⟨gb199, 9, none⟩ = some (.bool false) := (blk_cell BK199.out 9).trans rfl; have hcz12_10 : w11.cell? ⟨gb199, 10, none⟩ = some (.string (⟨#[]⟩ : ByteArray)) := (blk_cell BK199.out 10).trans rfl; have hcz12_11 : w11.cell? ⟨gb199, 11, none⟩ = some (.int .i64 0) := (blk_cell BK199.out 11).trans rfl; have hfz12_0 := blk_frozen BK199.out 0; have hfz12_1 := blk_frozen BK199.out 1; have hfz12_2 := blk_frozen BK199.out 2; have hfz12_3 := blk_frozen BK199.out 3; have hfz12_4 := blk_frozen BK199.out 4; have hfz12_5 := blk_frozen BK199.out 5; have hfz12_6 := blk_frozen BK199.out 6; have hfz12_7 := blk_frozen BK199.out 7; have hfz12_8 := blk_frozen BK199.out 8; have hfz12_9 := blk_frozen BK199.out 9; have hfz12_10 := blk_frozen BK199.out 10; have hfz12_11 := blk_frozen BK199.out 11) | ((with_reducible refine gate_builtin (b := .append) (xs := #[.tmp 34, .tmp 36]) rfl ?_); at_builtin; refine Kd.R_append k45 (w0 := w) w.heap.size rfl (.tmp 34) (.tmp 36) 22 45 (.agg #[(.int .i64 0), (.int .i64 0), (.int .i64 0), (.string ⟨#[]⟩), (.bool false), (.int .i64 0), (.int .i64 0), (.int .i64 0), (.bool false), (.bool false), (.string ⟨#[]⟩), (.int .i64 0)]) 104 rfl Tryz.underlying22 info45 rfl (by decide) (by omega) u5 x5_1 (⟨t185, (⟨t186, t187, t188, t189, t190⟩ : S39), (⟨(⟨t191, t192⟩ : S41), t193, t194⟩ : S43), t195, t196⟩ : S45) [.int .i64 t185, .int .i64 t186, .int .i64 t187, .string t188, .bool t189, .int .i64 t190, .int .i64 t191, .int .i64 t192, .bool t193, .bool t194, .string t195, .int .i64 t196] (fun k_ => k_ ≠ gb199) (fun _ => False) rfl (by first | (go_simp; done) | (go_simp; rfl)) ?aP (fun _ hk => hk.elim) ?aF ?aO ?aB ?aS ?aL ?_; (case aP => exact k45_mkM _ _ _ (⟨t185, (⟨t186, t187, t188, t189, t190⟩ : S39), (⟨(⟨t191, t192⟩ : S41), t193, t194⟩ : S43), t195, t196⟩ : S45)); (case aB => exact (by repeat (first | (with_reducible first | exact HB.out | apply bqA | apply bqN | apply bqD | refine below_set ?_ GE199.out) | exact HB.out))); (case aF => exact (fun k_ hk => Kd.freshB (g := gb199) (o := .cells #[.int .i64 t185, .int .i64 t186, .int .i64 t187, .string t188, .bool t189, .int .i64 t190, .int .i64 t191, .int .i64 t192, .bool t193, .bool t194, .string t195, .int .i64 t196] 45 (0, 0)) (by (with_reducible repeat (first | refine bqZ ?_ _ | refine bqY ?_ | refine bqX ?_ _)); refine blk_put (cs := #[.int .i64 t185, .int .i64 t186, .int .i64 t187, .string t188, .bool t189, .int .i64 t190, .int .i64 t191, .int .i64 t192, .bool t193, .bool t194, .string t195, .int .i64 0]) ?_ 11 _ rfl; (with_reducible repeat (first | refine bqZ ?_ _ | refine bqY ?_ | refine bqX ?_ _)); refine blk_put (cs := #[.int .i64 t185, .int .i64 t186, .int .i64 t187, .string t188, .bool t189, .int .i64 t190, .int .i64 t191, .int .i64 t192, .bool t193, .bool t194, .string (⟨#[]⟩ : ByteArray), .int .i64 0]) ?_ 10 _ rfl; (with_reducible repeat (first | refine bqZ ?_ _ | refine bqY ?_ | refine bqX ?_ _)); refine blk_put (cs := #[.int .i64 t185, .int .i64 t186, .int .i64 t187, .string t188, .bool t189, .int .i64 t190, .int .i64 t191, .int .i64 t192, .bool t193, .bool false, .string (⟨#[]⟩ : ByteArray), .int .i64 0]) ?_ 9 _ rfl; (with_reducible repeat (first | refine bqZ ?_ _ | refine bqY ?_ | refine bqX ?_ _)); refine blk_put (cs := #[.int .i64 t185, .int .i64 t186, .int .i64 t187, .string t188, .bool t189, .int .i64 t190, .int .i64 t191, .int .i64 t192, .bool false, .bool false, .string (⟨#[]⟩ : ByteArray), .int .i64 0]) ?_ 8 _ rfl; (with_reducible repeat (first | refine bqZ ?_ _ | refine bqY ?_ | refine bqX ?_ _)); refine blk_put (cs := #[.int .i64 t185, .int .i64 t186, .int .i64 t187, .string t188, .bool t189, .int .i64 t190, .int .i64 t191, .int .i64 0, .bool false, .bool false, .string (⟨#[]⟩ : ByteArray), .int .i64 0]) ?_ 7 _ rfl; (with_reducible repeat (first | refine bqZ ?_ _ | refine bqY ?_ | refine bqX ?_ _)); refine blk_put (cs := #[.int .i64 t185, .int .i64 t186, .int .i64 t187, .string t188, .bool t189, .int .i64 t190, .int .i64 0, .int .i64 0, .bool false, .bool false, .string (⟨#[]⟩ : ByteArray), .int .i64 0]) ?_ 6 _ rfl; (with_reducible repeat (first | refine bqZ ?_ _ | refine bqY ?_ | refine bqX ?_ _)); refine blk_put (cs := #[.int .i64 t185, .int .i64 t186, .int .i64 t187, .string t188, .bool t189, .int .i64 0, .int .i64 0, .int .i64 0, .bool false, .bool false, .string (⟨#[]⟩ : ByteArray), .int .i64 0]) ?_ 5 _ rfl; (with_reducible repeat (first | refine bqZ ?_ _ | refine bqY ?_ | refine bqX ?_ _)); refine blk_put (cs := #[.int .i64 t185, .int .i64 t186, .int .i64 t187, .string t188, .bool false, .int .i64 0, .int .i64 0, .int .i64 0, .bool false, .bool false, .string (⟨#[]⟩ : ByteArray), .int .i64 0]) ?_ 4 _ rfl; (with_reducible repeat (first | refine bqZ ?_ _ | refine bqY ?_ | refine bqX ?_ _)); refine blk_put (cs := #[.int .i64 t185, .int .i64 t186, .int .i64 t187, .string (⟨#[]⟩ : ByteArray), .bool false, .int .i64 0, .int .i64 0, .int .i64 0, .bool false, .bool false, .string (⟨#[]⟩ : ByteArray), .int .i64 0]) ?_ 3 _ rfl; (with_reducible repeat (first | refine bqZ ?_ _ | refine bqY ?_ | refine bqX ?_ _)); refine blk_put (cs := #[.int .i64 t185, .int .i64 t186, .int .i64 0, .string (⟨#[]⟩ : ByteArray), .bool false, .int .i64 0, .int .i64 0, .int .i64 0, .bool false, .bool false, .string (⟨#[]⟩ : ByteArray), .int .i64 0]) ?_ 2 _ rfl; (with_reducible repeat (first | refine bqZ ?_ _ | refine bqY ?_ | refine bqX ?_ _)); refine blk_put (cs := #[.int .i64 t185, .int .i64 0, .int .i64 0, .string (⟨#[]⟩ : ByteArray), .bool false, .int .i64 0, .int .i64 0, .int .i64 0, .bool false, .bool false, .string (⟨#[]⟩ : ByteArray), .int .i64 0]) ?_ 1 _ rfl; (with_reducible repeat (first | refine bqZ ?_ _ | refine bqY ?_ | refine bqX ?_ _)); refine blk_put (cs := #[.int .i64 0, .int .i64 0, .int .i64 0, .string (⟨#[]⟩ : ByteArray), .bool false, .int .i64 0, .int .i64 0, .int .i64 0, .bool false, .bool false, .string (⟨#[]⟩ : ByteArray), .int .i64 0]) ?_ 0 _ rfl; (with_reducible repeat (first | refine bqZ ?_ _ | refine bqY ?_ | refine bqX ?_ _)); exact BK199.out) k_ hk)); (case aO => exact (by (with_reducible repeat (first | apply Kd.R_alloc | apply Kd.R_drewN | apply Kd.R_drew)); exact Kd.R_mono (Kd.R_far (p := ⟨gb199, 11, none⟩) (Kd.R_far (p := ⟨gb199, 10, none⟩) (Kd.R_far (p := ⟨gb199, 9, none⟩) (Kd.R_far (p := ⟨gb199, 8, none⟩) (Kd.R_far (p := ⟨gb199, 7, none⟩) (Kd.R_far (p := ⟨gb199, 6, none⟩) (Kd.R_far (p := ⟨gb199, 5, none⟩) (Kd.R_far (p := ⟨gb199, 4, none⟩) (Kd.R_far (p := ⟨gb199, 3, none⟩) (Kd.R_far (p := ⟨gb199, 2, none⟩) (Kd.R_far (p := ⟨gb199, 1, none⟩) (Kd.R_far (p := ⟨gb199, 0, none⟩) (Kd.R_mono HO_5.out (fun k_ hk => (⟨hk, hk.2⟩ : _ ∧ k_ ≠ gb199))) (fun _ hk => hk.2) (.int .i64 t185)) (fun _ hk => hk.2) (.int .i64 t186)) (fun _ hk => hk.2) (.int .i64 t187)) (fun _ hk => hk.2) (.string t188)) (fun _ hk => hk.2) (.bool t189)) (fun _ hk => hk.2) (.int .i64 t190)) (fun _ hk => hk.2) (.int .i64 t191)) (fun _ hk => hk.2) (.int .i64 t192)) (fun _ hk => hk.2) (.bool t193)) (fun _ hk => hk.2) (.bool t194)) (fun _ hk => hk.2) (.string t195)) (fun _ hk => hk.2) (.int .i64 t196)) (fun _ hk => hk.1.2))); (case aS => exact (below_size (by repeat (first | (with_reducible first | exact HB.out | apply bqA | apply bqN | apply bqD | refine below_set ?_ GE199.out) | exact HB.out)))); (case aL => have := LMc9.out; omega); intro v201 w13 ho hb hg hat; rw [← Ny200.out] at ho; have n0_ := Aside0.mk (blk_grown (g := gb199) (o := .cells #[.int .i64 t185, .int .i64 t186, .int .i64 t187, .string t188, .bool t189, .int .i64 t190, .int .i64 t191, .int .i64 t192, .bool t193, .bool t194, .string t195, .int .i64 t196] 45 (0, 0)) (by (with_reducible repeat (first | refine bqZ ?_ _ | refine bqY ?_ | refine bqX ?_ _)); refine blk_put (cs := #[.int .i64 t185, .int .i64 t186, .int .i64 t187, .string t188, .bool t189, .int .i64 t190, .int .i64 t191, .int .i64 t192, .bool t193, .bool t194, .string t195, .int .i64 0]) ?_ 11 _ rfl; (with_reducible repeat (first | refine bqZ ?_ _ | refine bqY ?_ | refine bqX ?_ _)); refine blk_put (cs := #[.int .i64 t185, .int .i64 t186, .int .i64 t187, .string t188, .bool t189, .int .i64 t190, .int .i64 t191, .int .i64 t192, .bool t193, .bool t194, .string (⟨#[]⟩ : ByteArray), .int .i64 0]) ?_ 10 _ rfl; (with_reducible repeat (first | refine bqZ ?_ _ | refine bqY ?_ | refine bqX ?_ _)); refine blk_put (cs := #[.int .i64 t185, .int .i64 t186, .int .i64 t187, .string t188, .bool t189, .int .i64 t190, .int .i64 t191, .int .i64 t192, .bool t193, .bool false, .string (⟨#[]⟩ : ByteArray), .int .i64 0]) ?_ 9 _ rfl; (with_reducible repeat (first | refine bqZ ?_ _ | refine bqY ?_ | refine bqX ?_ _)); refine blk_put (cs := #[.int .i64 t185, .int .i64 t186, .int .i64 t187, .string t188, .bool t189, .int .i64 t190, .int .i64 t191, .int .i64 t192, .bool false, .bool false, .string (⟨#[]⟩ : ByteArray), .int .i64 0]) ?_ 8 _ rfl; (with_reducible repeat (first | refine bqZ ?_ _ | refine bqY ?_ | refine bqX ?_ _)); refine blk_put (cs := #[.int .i64 t185, .int .i64 t186, .int .i64 t187, .string t188, .bool t189, .int .i64 t190, .int .i64 t191, .int .i64 0, .bool false, .bool false, .string (⟨#[]⟩ : ByteArray), .int .i64 0]) ?_ 7 _ rfl; (with_reducible repeat (first | refine bqZ ?_ _ | refine bqY ?_ | refine bqX ?_ _)); refine blk_put (cs := #[.int .i64 t185, .int .i64 t186, .int .i64 t187, .string t188, .bool t189, .int .i64 t190, .int .i64 0, .int .i64 0, .bool false, .bool false, .string (⟨#[]⟩ : ByteArray), .int .i64 0]) ?_ 6 _ rfl; (with_reducible repeat (first | refine bqZ ?_ _ | refine bqY ?_ | refine bqX ?_ _)); refine blk_put (cs := #[.int .i64 t185, .int .i64 t186, .int .i64 t187, .string t188, .bool t189, .int .i64 0, .int .i64 0, .int .i64 0, .bool false, .bool false, .string (⟨#[]⟩ : ByteArray), .int .i64 0]) ?_ 5 _ rfl; (with_reducible repeat (first | refine bqZ ?_ _ | refine bqY ?_ | refine bqX ?_ _)); refine blk_put (cs := #[.int .i64 t185, .int .i64 t186, .int .i64 t187, .string t188, .bool false, .int .i64 0, .int .i64 0, .int .i64 0, .bool false, .bool false, .string (⟨#[]⟩ : ByteArray), .int .i64 0]) ?_ 4 _ rfl; (with_reducible repeat (first | refine bqZ ?_ _ | refine bqY ?_ | refine bqX ?_ _)); refine blk_put (cs := #[.int .i64 t185, .int .i64 t186, .int .i64 t187, .string (⟨#[]⟩ : ByteArray), .bool false, .int .i64 0, .int .i64 0, .int .i64 0, .bool false, .bool false, .string (⟨#[]⟩ : ByteArray), .int .i64 0]) ?_ 3 _ rfl; (with_reducible repeat (first | refine bqZ ?_ _ | refine bqY ?_ | refine bqX ?_ _)); refine blk_put (cs := #[.int .i64 t185, .int .i64 t186, .int .i64 0, .string (⟨#[]⟩ : ByteArray), .bool false, .int .i64 0, .int .i64 0, .int .i64 0, .bool false, .bool false, .string (⟨#[]⟩ : ByteArray), .int .i64 0]) ?_ 2 _ rfl; (with_reducible repeat (first | refine bqZ ?_ _ | refine bqY ?_ | refine bqX ?_ _)); refine blk_put (cs := #[.int .i64 t185, .int .i64 0, .int .i64 0, .string (⟨#[]⟩ : ByteArray), .bool false, .int .i64 0, .int .i64 0, .int .i64 0, .bool false, .bool false, .string (⟨#[]⟩ : ByteArray), .int .i64 0]) ?_ 1 _ rfl; (with_reducible repeat (first | refine bqZ ?_ _ | refine bqY ?_ | refine bqX ?_ _)); refine blk_put (cs := #[.int .i64 0, .int .i64 0, .int .i64 0, .string (⟨#[]⟩ : ByteArray), .bool false, .int .i64 0, .int .i64 0, .int .i64 0, .bool false, .bool false, .string (⟨#[]⟩ : ByteArray), .int .i64 0]) ?_ 0 _ rfl; (with_reducible repeat (first | refine bqZ ?_ _ | refine bqY ?_ | refine bqX ?_ _)); exact BK199.out) hg (Kd.R_away HO_5.out (fun _ hk => hk.2))); have n1_ := Aside0.mk (hb); have n2_ := Aside0.mk (ho); clear BK199; clear HB; clear HO_5; have BK199 := n0_; have HB := n1_; have HO202 := n2_; clear n0_ n1_ n2_; clear ho hb hg hat))
         go_roundg k1
         case measure => have := HK1.out; omega
         case rel => exact ⟨(y200), (t197), (by first | rfl | (simp; done) | (simp [*]; done)), H', ⟨by have := HK1.out; omega⟩, ⟨by (with_reducible repeat (first | apply Kd.R_alloc | apply Kd.R_drewN | apply Kd.R_drew)); exact Kd.R_mono HO202.out (fun _ hk => trivial)⟩, ⟨by repeat (first | (with_reducible first | exact HB.out | apply bqA | apply bqN | apply bqD | refine below_set ?_ GE199.out) | exact HB.out)⟩⟩
        ·rw [if_neg c9] at H
         exact absurd H (by simp)
       ·rw [if_neg c8] at H
        have c8b0 : (t198 == 0) = false := beq_eq_false_iff_ne.mpr c8
        have c8b1 : (t198 != 0) = true := bne_iff_ne.mpr c8
        simp only [Option.some.injEq, Prod.mk.injEq] at H
        obtain ⟨rfl, rfl, rfl⟩ := H
        have p5 : 0 ≤ (x6_1 : Int) := of_decide_eq_true (by first | (with_reducible assumption) | assumption)
        have q5 : x6_1 < (a0.size : Int) := of_decide_eq_true (by first | (with_reducible assumption) | assumption)
        have hx5 := bt_at a0 x6_1
        replace p5 := eq_true p5
        replace q5 := eq_true q5
        go_wp2_with (first | ((with_reducible refine gate_callee (f := 15) rfl ?_); refine goesL_ (some 26) rfl rfl Tryz.func15 (by kernel_rfl) rfl #[.string a0, .int .i64 x6_1] rfl (by (try simp only [List.map_toArray, List.map_cons, List.map_nil]); first | done | rfl) ?_; (with_reducible refine (foolscapref07_one.calls k1 a0 x6_1 t185 t186 t187 t188 t189 t190 t191 t192 t193 t194 t195 t196 t197 t198 _ A7.out).mono ?_); rintro e w14 ⟨rfl, hb⟩; refine ⟨_, rfl, ?_⟩; have n0_ := Aside0.mk (Kd.R_below (by (with_reducible repeat (first | apply Kd.R_alloc | apply Kd.R_drewN | apply Kd.R_drew)); exact HO_5.out) hb); have n1_ := Aside0.mk (below_step (by repeat (first | (with_reducible first | exact HB.out | apply bqA | apply bqN | apply bqD) | exact HB.out)) hb); clear HO_5; clear HB; have HO_5 := n0_; have HB := n1_; clear n0_ n1_; (try clear hb); (try clear hb2); (try clear hk); (try clear hi)) | ((with_reducible refine gate_dst (N := 7) rfl ?_); refine box_event ?hg (N := 7) ?hd (cs := #[.int .i64 0, .int .i64 0, .int .i64 0, .string (⟨#[]⟩ : ByteArray), .bool false, .int .i64 0, .int .i64 0, .int .i64 0, .bool false, .bool false, .string (⟨#[]⟩ : ByteArray), .int .i64 0]) (t := 45) ?hr ?_; (case hd => rfl); (case hg => rfl); (case hr => first | (go_simp; done) | (go_simp; rfl)); intro gb199 hg w15 hbox hb; have n0_ := Aside0.mk (Kd.R_below (Kd.R_elderB (by (with_reducible repeat (first | apply Kd.R_alloc | apply Kd.R_drewN | apply Kd.R_drew)); exact HO_5.out) gb199 (Nat.le_of_eq hg.symm)) hb); have n1_ := Aside0.mk (below_step (by repeat (first | (with_reducible first | exact HB.out | apply bqA | apply bqN | apply bqD) | exact HB.out)) hb); have n2_ := Aside0.mk (hbox); have n3_ := Aside0.mk ((by rw [hg]; exact (below_size (by repeat (first | (with_reducible first | exact HB.out | apply bqA | apply bqN | apply bqD) | exact HB.out))) : w.heap.size ≤ gb199)); have n4_ := n3_; clear HO_5; clear HB; have HO_5 := n0_; have HB := n1_; have BK199 := n2_; have GW199 := n3_; have GE199 := n4_; clear n0_ n1_ n2_ n3_ n4_; clear hb hbox hg; have hcz16_0 : w15.cell? ⟨gb199, 0, none⟩ = some (.int .i64 0) := (blk_cell BK199.out 0).trans rfl; have hcz16_1 : w15.cell? ⟨gb199, 1, none⟩ = some (.int .i64 0) := (blk_cell BK199.out 1).trans rfl; have hcz16_2 : w15.cell? ⟨gb199, 2, none⟩ = some (.int .i64 0) := (blk_cell BK199.out 2).trans rfl; have hcz16_3 : w15.cell? ⟨gb199, 3, none⟩ = some (.string (⟨#[]⟩ : ByteArray)) := (blk_cell BK199.out 3).trans rfl; have hcz16_4 : w15.cell? ⟨gb199, 4, none⟩ = some (.bool false) := (blk_cell BK199.out 4).trans rfl; have hcz16_5 : w15.cell? ⟨gb199, 5, none⟩ = some (.int .i64 0) := (blk_cell BK199.out 5).trans rfl; have hcz16_6 : w15.cell? ⟨gb199, 6, none⟩ = some (.int .i64 0) := (blk_cell BK199.out 6).trans rfl; have hcz16_7 : w15.cell? ⟨gb199, 7, none⟩ = some (.int .i64 0) := (blk_cell BK199.out 7).trans rfl; have hcz16_8 : w15.cell? ⟨gb199, 8, none⟩ = some (.bool false) := (blk_cell BK199.out 8).trans rfl; have hcz16_9 : w15.cell? ⟨gb199, 9, none⟩ = some (.bool false) := (blk_cell BK199.out 9).trans rfl; have hcz16_10 : w15.cell? ⟨gb199, 10, none⟩ = some (.string (⟨#[]⟩ : ByteArray)) := (blk_cell BK199.out 10).trans rfl; have hcz16_11 : w15.cell? ⟨gb199, 11, none⟩ = some (.int .i64 0) := (blk_cell BK199.out 11).trans rfl; have hfz16_0 := blk_frozen BK199.out 0; have hfz16_1 := blk_frozen BK199.out 1; have hfz16_2 := blk_frozen BK199.out 2; have hfz16_3 := blk_frozen BK199.out 3; have hfz16_4 := blk_frozen BK199.out 4; have hfz16_5 := blk_frozen BK199.out 5; have hfz16_6 := blk_frozen BK199.out 6; have hfz16_7 := blk_frozen BK199.out 7; have hfz16_8 := blk_frozen BK199.out 8; have hfz16_9 := blk_frozen BK199.out 9; have hfz16_10 := blk_frozen BK199.out 10; have hfz16_11 := blk_frozen BK199.out 11))
        go_ret3
        exact ⟨_, by first | rfl | (simp [errW_none, errW_some] <;> rfl) | (simp [*, errW_none, errW_some] <;> rfl), by first | exact Kd.R_nil _ _ _ _ _ | exact Kd.N_nil _ _ _ _ _ | exact Kd.V_nil _ _ _ _ _ | exact Kd.Q_nil _ _ _ _ _ | exact Kd.S_nil _ _ _ _ _, by repeat (first | (with_reducible first | exact HB.out | apply bqA | apply bqN | apply bqD | refine below_set ?_ GE199.out) | exact HB.out)⟩
     ·rw [if_neg c4] at H
      exact absurd H (by simp)
    ·rw [if_neg c3] at H
     have c3b0 : decide (x6_1 < (a0.size : Int)) = false := decide_eq_false c3
     clear c3
     by_cases c17 : x5_1.length < 1353245080339
     ·rw [if_pos c17] at H
      have LMc17 := Aside0.mk c17
      clear c17
      obtain ⟨y182, hy182⟩ : ∃ y_ : List (S45), y_ = (x5_1 ++ [(⟨0, (⟨0, 0, (⟨#[]⟩ : ByteArray), false, 0⟩ : S39), (⟨(⟨0, 0⟩ : S41), false, false⟩ : S43), (⟨#[]⟩ : ByteArray), (a0.size : Int)⟩ : S45)]) := ⟨_, rfl⟩
      replace H : (some (y182, 0, 0)) = some (r1, r2, r3) := by first | (rw [hy182]; with_reducible exact H) | (have H2_ := (Option.bind_some _ _).symm.trans H; rw [hy182]; with_reducible exact H2_) | (have H2_ := (Option.bind_some _ _).symm.trans H; with_reducible exact H2_) | with_reducible exact H | (rw [hy182]; exact H) | exact H
      have Ny182 := Aside0.mk hy182
      clear hy182
      simp only [Option.some.injEq, Prod.mk.injEq] at H
      obtain ⟨rfl, rfl, rfl⟩ := H
      go_wp2_with (first | ((with_reducible refine gate_builtin (b := .append) (xs := #[.tmp 39, .tmp 43]) rfl ?_); at_builtin; refine Kd.R_append k45 (w0 := w) w.heap.size rfl (.tmp 39) (.tmp 43) 22 45 (.agg #[(.int .i64 0), (.int .i64 0), (.int .i64 0), (.string ⟨#[]⟩), (.bool false), (.int .i64 0), (.int .i64 0), (.int .i64 0), (.bool false), (.bool false), (.string ⟨#[]⟩), (.int .i64 0)]) 104 rfl Tryz.underlying22 info45 rfl (by decide) (by omega) u5 x5_1 (⟨0, (⟨0, 0, (⟨#[]⟩ : ByteArray), false, 0⟩ : S39), (⟨(⟨0, 0⟩ : S41), false, false⟩ : S43), (⟨#[]⟩ : ByteArray), (a0.size : Int)⟩ : S45) [.int .i64 0, .int .i64 0, .int .i64 0, .string (⟨#[]⟩ : ByteArray), .bool false, .int .i64 0, .int .i64 0, .int .i64 0, .bool false, .bool false, .string (⟨#[]⟩ : ByteArray), .int .i64 (a0.size : Int)] (fun _ => True) (fun _ => False) rfl rfl ?aP (fun _ hk => hk.elim) ?aF ?aO ?aB ?aS ?aL ?_; (case aP => exact k45_mkM _ _ _ (⟨0, (⟨0, 0, (⟨#[]⟩ : ByteArray), false, 0⟩ : S39), (⟨(⟨0, 0⟩ : S41), false, false⟩ : S43), (⟨#[]⟩ : ByteArray), (a0.size : Int)⟩ : S45)); (case aB => exact (by repeat (first | (with_reducible first | exact HB.out | apply bqA | apply bqN | apply bqD) | exact HB.out))); (case aF => exact (fun _ _ => trivial)); (case aO => exact (by (with_reducible repeat (first | apply Kd.R_alloc | apply Kd.R_drewN | apply Kd.R_drew)); exact HO_5.out)); (case aS => exact (below_size (by repeat (first | (with_reducible first | exact HB.out | apply bqA | apply bqN | apply bqD) | exact HB.out)))); (case aL => have := LMc17.out; omega); intro v183 w18 ho hb hg hat; rw [← Ny182.out] at ho; have n0_ := Aside0.mk (hb); have n1_ := Aside0.mk (ho); clear HB; clear HO_5; have HB := n0_; have HO184 := n1_; clear n0_ n1_; clear ho hb hg hat))
      go_ret3
      exact ⟨_, by first | rfl | (simp [errW_none, errW_some] <;> rfl) | (simp [*, errW_none, errW_some] <;> rfl), by (with_reducible repeat (first | apply Kd.R_alloc | apply Kd.R_drewN | apply Kd.R_drew)); exact HO184.out, by repeat (first | (with_reducible first | exact HB.out | apply bqA | apply bqN | apply bqD) | exact HB.out)⟩
     ·rw [if_neg c17] at H
      exact absurd H (by simp)
def foolscapref07_Same.l0 : Nat → List (S45) → List (S45) → Int → Option (Bool)
 | 0, _, _, _ => none
 | k + 1, x0, x1, x5 => if x5 < (x0.length : Int) then (if 0 ≤ x5 then (if x5 < (x1.length : Int) then (if (!(((rd_T45 x0 x5).f0) == ((rd_T45 x1 x5).f0)) || ((!(((rd_T45 x0 x5).f1.f0) == ((rd_T45 x1 x5).f1.f0)) || (!(((rd_T45 x0 x5).f1.f1) == ((rd_T45 x1 x5).f1.f1)) || (!((((rd_T45 x0 x5).f1.f2).toList) == (((rd_T45 x1 x5).f1.f2).toList)) || (!(((rd_T45 x0 x5).f1.f3) == ((rd_T45 x1 x5).f1.f3)) || (!(((rd_T45 x0 x5).f1.f4) == ((rd_T45 x1 x5).f1.f4))))))) || (((!(((rd_T45 x0 x5).f2.f0.f0) == ((rd_T45 x1 x5).f2.f0.f0)) || (!(((rd_T45 x0 x5).f2.f0.f1) == ((rd_T45 x1 x5).f2.f0.f1)))) || (!(((rd_T45 x0 x5).f2.f1) == ((rd_T45 x1 x5).f2.f1)) || (!(((rd_T45 x0 x5).f2.f2) == ((rd_T45 x1 x5).f2.f2))))) || (!((((rd_T45 x0 x5).f3).toList) == (((rd_T45 x1 x5).f3).toList)) || (!(((rd_T45 x0 x5).f4) == ((rd_T45 x1 x5).f4))))))) = true then (some false) else (foolscapref07_Same.l0 k x0 x1 (wrap64 (x5 + 1)))) else (none)) else (none)) else (some true)
def foolscapref07_Same.f (k : Nat) (l0 : List (S45)) (l1 : List (S45)) : Option (Bool) := if (l0.length : Int) = (l1.length : Int) then (foolscapref07_Same.l0 k l0 l1 0) else (some false)
set_option maxHeartbeats 8000000 in
set_option maxRecDepth 100000 in
theorem foolscapref07_Same.calls (k : Nat) (A0 : Option Addr) (c0 : Nat) (l0 : List (S45)) (A1 : Option Addr) (c1 : Nat) (l1 : List (S45)) (r : Bool) (w : World) (hr0 : Kd.C k45 w A0 l0.length l0) (hc0 : l0.length ≤ c0) (hr1 : Kd.C k45 w A1 l1.length l1) (hc1 : l1.length ≤ c1) (h : foolscapref07_Same.f k l0 l1 = some r) :
  Calls Tryz.prog 10 #[.slice A0 l0.length c0, .slice A1 l1.length c1] w fun e w' => e = .returned (.bool r) ∧ Drawn0 w w' := by
 have hu45 := Tryz.underlying45
 have HR0 := Aside0.mk hr0
 have HC0 := Aside0.mk hc0
 clear hr0 hc0
 have HR1 := Aside0.mk hr1
 have HC1 := Aside0.mk hc1
 clear hr1 hc1
 have H : (if (l0.length : Int) = (l1.length : Int) then (foolscapref07_Same.l0 k l0 l1 0) else (some false)) = some r := h
 clear h
 by_cases c3 : (l0.length : Int) = (l1.length : Int)
 ·rw [if_pos c3] at H
  have c3b0 : ((l0.length : Int) == (l1.length : Int)) = true := beq_iff_eq.mpr c3
  have c3b1 : ((l0.length : Int) != (l1.length : Int)) = false := bne_eq_false_iff_eq.mpr c3
  have c3b2 : (l0.length == l1.length) = true := by first | simpa using c3 | (simp at c3 ⊢; omega)
  clear c3
  have H' := Aside0.mk H
  clear H
  go_enter Tryz.func10, Tryz.ntmps10
  go_wp2
  repeat (go_quiet (fail); try go_wp2)
  go_loopg [5] k (fun kq v5 w' => ∃ (x5_1 : Int), v5 = .int .i64 x5_1 ∧ Aside0 (foolscapref07_Same.l0 kq l0 l1 x5_1 = some r) ∧ Aside0 (kq ≤ k) ∧ Drawn0 w w')
  case atStart => exact ⟨(0), (by first | rfl | (simp; done) | (simp [*]; done)), H', ⟨Nat.le_refl _⟩, by repeat (first | exact Drawn0.refl _ | apply Drawn0.step)⟩
  case round =>
   clear H'
   try clear c1
   try clear p2
   try clear c3
   try clear c3b0
   try clear c3b1
   try clear c3b2
   obtain ⟨x5_1, rfl, HA, HK1, ⟨m1, rfl⟩⟩ := hrel
   cases gk with
   | zero => exact absurd HA.out (by simp [foolscapref07_Same.l0])
   | succ k1 =>
    have H := HA.out
    clear HA
    simp only [foolscapref07_Same.l0] at H
    by_cases c4 : x5_1 < (l0.length : Int)
    ·rw [if_pos c4] at H
     have c4b0 : decide (x5_1 < (l0.length : Int)) = true := decide_eq_true c4
     clear c4
     by_cases c5 : 0 ≤ x5_1
     ·rw [if_pos c5] at H
      have c5b0 : decide (0 ≤ x5_1) = true := decide_eq_true c5
      clear c5
      by_cases c6 : x5_1 < (l1.length : Int)
      ·rw [if_pos c6] at H
       have c6b0 : decide (x5_1 < (l1.length : Int)) = true := decide_eq_true c6
       clear c6
       by_cases c7 : (!(((rd_T45 l0 x5_1).f0) == ((rd_T45 l1 x5_1).f0)) || ((!(((rd_T45 l0 x5_1).f1.f0) == ((rd_T45 l1 x5_1).f1.f0)) || (!(((rd_T45 l0 x5_1).f1.f1) == ((rd_T45 l1 x5_1).f1.f1)) || (!((((rd_T45 l0 x5_1).f1.f2).toList) == (((rd_T45 l1 x5_1).f1.f2).toList)) || (!(((rd_T45 l0 x5_1).f1.f3) == ((rd_T45 l1 x5_1).f1.f3)) || (!(((rd_T45 l0 x5_1).f1.f4) == ((rd_T45 l1 x5_1).f1.f4))))))) || (((!(((rd_T45 l0 x5_1).f2.f0.f0) == ((rd_T45 l1 x5_1).f2.f0.f0)) || (!(((rd_T45 l0 x5_1).f2.f0.f1) == ((rd_T45 l1 x5_1).f2.f0.f1)))) || (!(((rd_T45 l0 x5_1).f2.f1) == ((rd_T45 l1 x5_1).f2.f1)) || (!(((rd_T45 l0 x5_1).f2.f2) == ((rd_T45 l1 x5_1).f2.f2))))) || (!((((rd_T45 l0 x5_1).f3).toList) == (((rd_T45 l1 x5_1).f3).toList)) || (!(((rd_T45 l0 x5_1).f4) == ((rd_T45 l1 x5_1).f4))))))) = true
       ·rw [if_pos c7] at H
        have c7b0 : (!(((rd_T45 l0 x5_1).f0) == ((rd_T45 l1 x5_1).f0)) || ((!(((rd_T45 l0 x5_1).f1.f0) == ((rd_T45 l1 x5_1).f1.f0)) || (!(((rd_T45 l0 x5_1).f1.f1) == ((rd_T45 l1 x5_1).f1.f1)) || (!((((rd_T45 l0 x5_1).f1.f2).toList) == (((rd_T45 l1 x5_1).f1.f2).toList)) || (!(((rd_T45 l0 x5_1).f1.f3) == ((rd_T45 l1 x5_1).f1.f3)) || (!(((rd_T45 l0 x5_1).f1.f4) == ((rd_T45 l1 x5_1).f1.f4))))))) || (((!(((rd_T45 l0 x5_1).f2.f0.f0) == ((rd_T45 l1 x5_1).f2.f0.f0)) || (!(((rd_T45 l0 x5_1).f2.f0.f1) == ((rd_T45 l1 x5_1).f2.f0.f1)))) || (!(((rd_T45 l0 x5_1).f2.f1) == ((rd_T45 l1 x5_1).f2.f1)) || (!(((rd_T45 l0 x5_1).f2.f2) == ((rd_T45 l1 x5_1).f2.f2))))) || (!((((rd_T45 l0 x5_1).f3).toList) == (((rd_T45 l1 x5_1).f3).toList)) || (!(((rd_T45 l0 x5_1).f4) == ((rd_T45 l1 x5_1).f4))))))) = true := c7
        clear c7
        obtain rfl := Option.some.inj H
        have p203 : 0 ≤ (x5_1 : Int) := of_decide_eq_true (by first | (with_reducible assumption) | assumption)
        have q203 : x5_1 < (l0.length : Int) := of_decide_eq_true (by first | (with_reducible assumption) | assumption)
        obtain ⟨ad203, e203, hx203_0, hx203_1, hx203_2, hx203_3, hx203_4, hx203_5, hx203_6, hx203_7, hx203_8, hx203_9, hx203_10, hx203_11⟩ := at_T45 HR0.out x5_1 p203 q203
        cases e203
        replace p203 := eq_true p203
        replace q203 := eq_true q203
        have p204 : 0 ≤ (x5_1 : Int) := of_decide_eq_true (by first | (with_reducible assumption) | assumption)
        have q204 : x5_1 < (l1.length : Int) := of_decide_eq_true (by first | (with_reducible assumption) | assumption)
        obtain ⟨ad204, e204, hx204_0, hx204_1, hx204_2, hx204_3, hx204_4, hx204_5, hx204_6, hx204_7, hx204_8, hx204_9, hx204_10, hx204_11⟩ := at_T45 HR1.out x5_1 p204 q204
        cases e204
        replace p204 := eq_true p204
        replace q204 := eq_true q204
        go_wp2
        repeat (go_quiet (fail); try go_wp2)
        go_ret
        exact ⟨by first | rfl | (simp; done) | (simp [*]; done), by repeat (first | exact Drawn0.refl _ | apply Drawn0.step)⟩
       ·rw [if_neg c7] at H
        have c7b0 : (!(((rd_T45 l0 x5_1).f0) == ((rd_T45 l1 x5_1).f0)) || ((!(((rd_T45 l0 x5_1).f1.f0) == ((rd_T45 l1 x5_1).f1.f0)) || (!(((rd_T45 l0 x5_1).f1.f1) == ((rd_T45 l1 x5_1).f1.f1)) || (!((((rd_T45 l0 x5_1).f1.f2).toList) == (((rd_T45 l1 x5_1).f1.f2).toList)) || (!(((rd_T45 l0 x5_1).f1.f3) == ((rd_T45 l1 x5_1).f1.f3)) || (!(((rd_T45 l0 x5_1).f1.f4) == ((rd_T45 l1 x5_1).f1.f4))))))) || (((!(((rd_T45 l0 x5_1).f2.f0.f0) == ((rd_T45 l1 x5_1).f2.f0.f0)) || (!(((rd_T45 l0 x5_1).f2.f0.f1) == ((rd_T45 l1 x5_1).f2.f0.f1)))) || (!(((rd_T45 l0 x5_1).f2.f1) == ((rd_T45 l1 x5_1).f2.f1)) || (!(((rd_T45 l0 x5_1).f2.f2) == ((rd_T45 l1 x5_1).f2.f2))))) || (!((((rd_T45 l0 x5_1).f3).toList) == (((rd_T45 l1 x5_1).f3).toList)) || (!(((rd_T45 l0 x5_1).f4) == ((rd_T45 l1 x5_1).f4))))))) = false := by simpa using c7
        clear c7
        have H' := Aside0.mk H
        clear H
        have p203 : 0 ≤ (x5_1 : Int) := of_decide_eq_true (by first | (with_reducible assumption) | assumption)
        have q203 : x5_1 < (l0.length : Int) := of_decide_eq_true (by first | (with_reducible assumption) | assumption)
        obtain ⟨ad203, e203, hx203_0, hx203_1, hx203_2, hx203_3, hx203_4, hx203_5, hx203_6, hx203_7, hx203_8, hx203_9, hx203_10, hx203_11⟩ := at_T45 HR0.out x5_1 p203 q203
        cases e203
        replace p203 := eq_true p203
        replace q203 := eq_true q203
        have p204 : 0 ≤ (x5_1 : Int) := of_decide_eq_true (by first | (with_reducible assumption) | assumption)
        have q204 : x5_1 < (l1.length : Int) := of_decide_eq_true (by first | (with_reducible assumption) | assumption)
        obtain ⟨ad204, e204, hx204_0, hx204_1, hx204_2, hx204_3, hx204_4, hx204_5, hx204_6, hx204_7, hx204_8, hx204_9, hx204_10, hx204_11⟩ := at_T45 HR1.out x5_1 p204 q204
        cases e204
        replace p204 := eq_true p204
        replace q204 := eq_true q204
        go_wp2
        repeat (go_quiet (fail); try go_wp2)
        go_roundg k1
        case measure => have := HK1.out; omega
        case rel => exact ⟨(wrap64 (x5_1 + 1)), (by first | rfl | (simp; done) | (simp [*]; done)), H', ⟨by have := HK1.out; omega⟩, by repeat (first | exact Drawn0.refl _ | apply Drawn0.step)⟩
      ·rw [if_neg c6] at H
       exact absurd H (by simp)
     ·rw [if_neg c5] at H
      exact absurd H (by simp)
    ·rw [if_neg c4] at H
     have c4b0 : decide (x5_1 < (l0.length : Int)) = false := decide_eq_false c4
     clear c4
     obtain rfl := Option.some.inj H
     go_wp2
     repeat (go_quiet (fail); try go_wp2)
     go_ret
     exact ⟨by first | rfl | (simp; done) | (simp [*]; done), by repeat (first | exact Drawn0.refl _ | apply Drawn0.step)⟩
 ·rw [if_neg c3] at H
  have c3b0 : ((l0.length : Int) == (l1.length : Int)) = false := beq_eq_false_iff_ne.mpr c3
  have c3b1 : ((l0.length : Int) != (l1.length : Int)) = true := bne_iff_ne.mpr c3
  have c3b2 : (l0.length == l1.length) = false := by first | simpa using c3 | (simp at c3 ⊢; omega)
  obtain rfl := Option.some.inj H
  go_enter Tryz.func10, Tryz.ntmps10
  go_wp2
  repeat (go_quiet (fail); try go_wp2)
  go_ret
  exact ⟨by first | rfl | (simp; done) | (simp [*]; done), by repeat (first | exact Drawn0.refl _ | apply Drawn0.step)⟩
end Go.Proofs.YtmppnobldhhpjaaGreatDoor.Pr
end
