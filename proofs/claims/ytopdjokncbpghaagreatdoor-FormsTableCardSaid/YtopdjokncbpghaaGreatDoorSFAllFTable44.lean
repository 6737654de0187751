/-
  Lemmas for the law FAllFTable.
-/
import Derived.Test.YtopdjokncbpghaaGreatDoorSFAllFTable27
import Derived.Test.YtopdjokncbpghaaGreatDoorSFAllFTable6
import Derived.Test.YtopdjokncbpghaaGreatDoorSFAllFTable20
import Derived.Test.YtopdjokncbpghaaGreatDoorSFAllFTable33
set_option maxHeartbeats 8000000
set_option maxRecDepth 100000
set_option linter.unusedVariables false
set_option linter.unusedSimpArgs false
section
namespace Go.Proofs.YtopdjokncbpghaaGreatDoor.Pr
open Go.RowKit Go.Proofs.YtopdjokncbpghaaGreatDoorW.PrintWords Go.Proofs.YtopdjokncbpghaaGreatDoorW.PrintLast Go.Proofs.YtopdjokncbpghaaGreatDoorW.PrintMore
attribute [local go_sem] max2_int min2_int max_two min_two max_three min_three max_four min_four
theorem k24_openF {W : World} {ok : Nat → Prop} {x : S24} {cs : List Value} (h : Kd.FK k24 W ok x cs) : ∃ A3 c3, cs = [.string x.f0, .int .i64 x.f1, .int .i64 x.f2, .slice A3 x.f3.length c3] ∧ x.f3.length ≤ c3 ∧ Kd.F (Kd.int .i64) W ok A3 x.f3.length x.f3 := by
 obtain ⟨A3, c3, rfl, l3, _⟩ := k24_open (Kd.FK_now h)
 exact ⟨A3, c3, rfl, l3, (fun W' hW => by obtain ⟨A3_, c3_, he, l3_, g3_⟩ := k24_open (h W' hW); injection (Option.some.inj (show some (Value.slice A3 x.f3.length c3) = some (Value.slice A3_ x.f3.length c3_) from congrArg (fun l => l[3]?) he)) with ha_ _ _; rw [ha_]; exact g3_)⟩
theorem k24_mkF (W : World) (ok : Nat → Prop) (x : S24) {A3 : Option Addr} {c3 : Nat} (l3 : x.f3.length ≤ c3) (g3 : Kd.F (Kd.int .i64) W ok A3 x.f3.length x.f3) : Kd.FK k24 W ok x [.string x.f0, .int .i64 x.f1, .int .i64 x.f2, .slice A3 x.f3.length c3] := fun W2 hW => k24_mk W2 x l3 (g3 W2 hW)
mutual
def foolscapref09_All.l0 : Nat → List (S24) → List (S76) → Int → Option ((List (S24)))
 | 0, _, _, _ => none
 | k + 1, x1, x2, x3 => if x3 < (x2.length : Int) then (if 0 ≤ x3 then ((foolscapref09_words.f k ((rd_T76 x2 x3).f0)).bind fun t363 => (foolscapref09_All.l1 k x1 x2 x3 t363 0)) else (none)) else (some x1)
def foolscapref09_All.l1 : Nat → List (S24) → List (S76) → Int → List ByteArray → Int → Option ((List (S24)))
 | 0, _, _, _, _, _ => none
 | k + 1, x1, x2, x3, x4, x5 => if x5 < (x4.length : Int) then (if 0 ≤ x5 then (if 0 ≤ x3 then (if x3 < (x2.length : Int) then (foolscapref09_All.l2 k x1 x2 x3 x4 x5 0 (rdOf ByteArray.empty x4 x5) ((rd_T76 x2 x3).f1) ((rd_T76 x2 x3).f2) ([] : List Int)) else (none)) else (none)) else (none)) else (foolscapref09_All.l0 k x1 x2 (wrap64 (x3 + 1)))
def foolscapref09_All.l2 : Nat → List (S24) → List (S76) → Int → List ByteArray → Int → Int → ByteArray → Int → Int → List Int → Option ((List (S24)))
 | 0, _, _, _, _, _, _, _, _, _, _ => none
 | k + 1, x1, x2, x3, x4, x5, x7, x370000, x370001, x370002, x370003 => if 0 ≤ x3 then (if x3 < (x2.length : Int) then (if x7 < (((rd_T76 x2 x3).f3).size : Int) then (if 0 ≤ x7 then ((foolscapref09_want.f (bt ((rd_T76 x2 x3).f3) x7)).bind fun t372 => (if x370003.length < 17592186044416 then (foolscapref09_All.l2 k x1 x2 x3 x4 x5 (wrap64 (x7 + 1)) x370000 x370001 x370002 (x370003 ++ [t372])) else (none))) else (none)) else (foolscapref09_All.l3 k x1 x2 x3 x4 x5 0 x370000 x370001 x370002 x370003)) else (none)) else (none)
def foolscapref09_All.l3 : Nat → List (S24) → List (S76) → Int → List ByteArray → Int → Int → ByteArray → Int → Int → List Int → Option ((List (S24)))
 | 0, _, _, _, _, _, _, _, _, _, _ => none
 | k + 1, x1, x2, x3, x4, x5, x8, x370000, x370001, x370002, x370003 => if x8 < (x1.length : Int) then (if 0 ≤ x8 then ((foolscapref04_Bytes.f k ((rd_T24 x1 x8).f0) x370000).bind fun t377 => (if t377 < 0 then (foolscapref09_All.l3 k x1 x2 x3 x4 x5 (wrap64 (x8 + 1)) x370000 x370001 x370002 x370003) else ((some (([] : List (S24)) : List (S24))).bind fun y378 => (if x8 ≤ (x1.length : Int) then ((some (x1.take (x8 : Int).toNat : List (S24))).bind fun y381 => (if y378.length + y381.length < 2513169434916 then ((some (y378 ++ y381 : List (S24))).bind fun y386 => (if y386.length < 2513169434916 then ((some (y386 ++ [(⟨x370000, x370001, x370002, x370003⟩ : S24)] : List (S24))).bind fun y389 => ((some (x1.drop (x8 : Int).toNat : List (S24))).bind fun y392 => (if y389.length + y392.length < 2513169434916 then (foolscapref09_All.l1 k (y389 ++ y392) x2 x3 x4 (wrap64 (x5 + 1))) else (none)))) else (none))) else (none))) else (none))))) else (none)) else ((some (([] : List (S24)) : List (S24))).bind fun y400 => (if 0 ≤ x8 then (if x8 ≤ (x1.length : Int) then ((some (x1.take (x8 : Int).toNat : List (S24))).bind fun y403 => (if y400.length + y403.length < 2513169434916 then ((some (y400 ++ y403 : List (S24))).bind fun y408 => (if y408.length < 2513169434916 then ((some (y408 ++ [(⟨x370000, x370001, x370002, x370003⟩ : S24)] : List (S24))).bind fun y411 => ((some (x1.drop (x8 : Int).toNat : List (S24))).bind fun y414 => (if y411.length + y414.length < 2513169434916 then (foolscapref09_All.l1 k (y411 ++ y414) x2 x3 x4 (wrap64 (x5 + 1))) else (none)))) else (none))) else (none))) else (none)) else (none)))
end
def foolscapref09_All.f (k : Nat)  : Option ((List (S24))) := (foolscapref09_table.f).bind fun t359 => (foolscapref09_All.l0 k ([] : List (S24)) t359 0)
def foolscapref09_All.T10 : Bool × List (List Nat × List Nat) := (true, [([], []), ([], []), ([0, 1], [0, 1]), ([2], [2]), ([], []), ([], []), ([4, 5], [4, 5]), ([6], [6]), ([7], [7]), ([], []), ([], []), ([9, 10], [9, 10]), ([11], [11]), ([12], [12]), ([3, 8, 13], [3, 8, 13]), ([], []), ([15, 14, 0, 1, 2, 3, 4, 5, 6, 7, 8, 9, 10, 11, 12, 13, 14, 15], [14, 15])])
def foolscapref09_All.B10 : List Nat := [0, 0, 3, 7, 0, 0, 48, 112, 240, 0, 0, 1536, 3584, 7680, 16383, 0, 65535]
theorem foolscapref09_All.tab10 : rtab .any (opsOf Tryz.f24 10) = foolscapref09_All.T10 := by kernel_rfl
theorem foolscapref09_All.bits10 : waitsOk foolscapref09_All.T10.2 foolscapref09_All.B10 = true := by kernel_rfl
def foolscapref09_All.T14 : Bool × List (List Nat × List Nat) := (true, [([], []), ([0], [0]), ([], []), ([], []), ([2, 3], [2, 3]), ([4], [4]), ([5], [5]), ([], []), ([6, 7], [6, 7]), ([8], [8]), ([9], [9]), ([1, 10, 9], [1, 10]), ([0, 1, 2, 3, 4, 5, 6, 7, 8, 9, 10, 11], []), ([12, 11, 11, 0, 1, 2, 3, 4, 5, 6, 7, 8, 9, 10, 11], [11, 12])])
def foolscapref09_All.B14 : List Nat := [0, 1, 0, 0, 12, 28, 60, 0, 252, 508, 1020, 2047, 4095, 8191]
theorem foolscapref09_All.tab14 : rtab .any (opsOf Tryz.f24 14) = foolscapref09_All.T14 := by kernel_rfl
theorem foolscapref09_All.bits14 : waitsOk foolscapref09_All.T14.2 foolscapref09_All.B14 = true := by kernel_rfl
def foolscapref09_All.T16 : Bool × List (List Nat × List Nat) := (true, [([], []), ([], []), ([1], [1]), ([0, 2], [0, 2]), ([3], [3]), ([4], [4]), ([4], [4]), ([5, 6, 4], [4, 5, 6]), ([7, 4], [4, 7]), ([8, 4], [4, 8]), ([4], [4]), ([10, 4], [4, 10]), ([9, 11, 4, 4], [4, 9, 11]), ([12, 4], [4, 12]), ([4, 13], [4, 13])])
def foolscapref09_All.B16 : List Nat := [0, 0, 2, 7, 15, 31, 31, 127, 255, 511, 31, 1055, 4095, 8191, 16383]
theorem foolscapref09_All.tab16 : rtab .any (opsOf Tryz.f24 16) = foolscapref09_All.T16 := by kernel_rfl
theorem foolscapref09_All.bits16 : waitsOk foolscapref09_All.T16.2 foolscapref09_All.B16 = true := by kernel_rfl
theorem foolscapref09_All.calls (k : Nat)  (r : List (S24)) (w : World) (h : foolscapref09_All.f k  = some r) :
  Calls Tryz.prog 24 #[] w fun e w' => ∃ v0_ : Value, e = .returned (v0_) ∧ Kd.N k24 24 w' w.heap.size (fun k_ => (w.heap.size ≤ k_)) v0_ r ∧ Below w.heap.size w w' := by
 have hu24 := Tryz.underlying24
 have HB := Aside0.mk (Below.refl w.heap.size w)
 have H : ((foolscapref09_table.f).bind fun t359 => (foolscapref09_All.l0 k ([] : List (S24)) t359 0)) = some r := h
 clear h
 replace H := Option.bind_eq_some_iff.mp H
 obtain ⟨t359, A10, H⟩ := H
 replace H : (foolscapref09_All.l0 k ([] : List (S24)) t359 0) = some r := H
 have A1 := Aside0.mk A10
 clear A10
 have H' := Aside0.mk H
 clear H
 go_enter Tryz.func24, Tryz.ntmps24
 go_wp2_with (first | ((with_reducible refine gate_callee (f := 29) rfl ?_); refine goesL_ (some 10) rfl rfl Tryz.func29 (by kernel_rfl) rfl #[] rfl (by (try simp only [List.map_toArray, List.map_cons, List.map_nil]); first | done | rfl | (simp only [List.length_drop, List.length_take]; rfl) | (simp only [ByteArray.size_append, Int.natCast_add]; done) | (simp only [ByteArray.size_append, Int.natCast_add]; rfl) | (simp only [Array.mk.injEq, List.cons.injEq, Value.int.injEq, true_and, and_true]; (try simp only [mx, mn, wrap64] at *); omega)) ?_; (with_reducible refine (foolscapref09_table.calls  t359 _ A1.out).mono ?_); rintro e w2 ⟨v360, rfl, ho0, hb⟩; refine ⟨_, rfl, ?_⟩; have n0_ := Aside0.mk (Kd.R_lower (Kd.R_newM (M := fun k_ => (w.heap.size ≤ k_)) ho0 (below_size (by repeat (first | (with_reducible first | exact HB.out | apply below_alloc | apply pw_below_drewN | apply below_drew1) | exact HB.out))) (fun k_ h_ => h_)) (below_size (by repeat (first | (with_reducible first | exact HB.out | apply below_alloc | apply pw_below_drewN | apply below_drew1) | exact HB.out)))); have n1_ := Aside0.mk (below_step (by repeat (first | (with_reducible first | exact HB.out | apply below_alloc | apply pw_below_drewN | apply below_drew1) | exact HB.out)) hb); clear HB; have HO361 := n0_; have HB := n1_; clear n0_ n1_; (try clear hb); (try clear hb2); (try clear hk); (try clear hi); (try clear ho0)))
 go_loopg [1, 3] k (fun kq v1 v3 w' => ∃ (x1_1 : List (S24)) (x3_1 : Int), v3 = .int .i64 x3_1 ∧ Aside0 (foolscapref09_All.l0 kq x1_1 t359 x3_1 = some r) ∧ Aside0 (kq ≤ k) ∧ Aside0 (Kd.N k24 24 w' w.heap.size (fun k_ => (w.heap.size ≤ k_) ∧ some k_ ≠ (v360 : Value).ownBlock) v1 x1_1) ∧ Aside0 (Kd.R k76 76 w' w.heap.size (fun k_ => (w.heap.size ≤ k_)) v360 t359) ∧ Aside0 (Below w.heap.size w w'))
 case atStart => exact ⟨(([] : List (S24))), (0), (rflS), H', ⟨Nat.le_refl _⟩, ⟨by first | exact Kd.S_nil _ _ _ _ _ | exact Kd.N_nil _ _ _ _ _ | exact Kd.V_nil _ _ _ _ _ | exact Kd.Q_nil _ _ _ _ _ | exact Kd.R_nil _ _ _ _ _⟩, ⟨by (with_reducible repeat (first | apply Kd.R_alloc | apply Kd.R_drewN | apply Kd.R_drew)); exact Kd.R_mono HO361.out (fun _ hk => hk.1)⟩, ⟨by repeat (first | (with_reducible first | exact HB.out | apply below_alloc | apply pw_below_drewN | apply below_drew1) | exact HB.out)⟩⟩
 case round =>
  clear H'
  try clear c2
  try clear p2
  obtain ⟨x1_1, x3_1, rfl, HA, HK1, HO_1, HO_2, HB⟩ := hrel
  cases gk with
  | zero => exact absurd HA.out (by simp [foolscapref09_All.l0])
  | succ k1 =>
   have H := HA.out
   clear HA
   simp only [foolscapref09_All.l0] at H
   by_cases c3 : x3_1 < (t359.length : Int)
   ·rw [if_pos c3] at H
    have c3b0 : decide (x3_1 < (t359.length : Int)) = true := decide_eq_true c3
    clear c3
    by_cases c4 : 0 ≤ x3_1
    ·rw [if_pos c4] at H
     have c4b0 : decide (0 ≤ x3_1) = true := decide_eq_true c4
     clear c4
     replace H := Option.bind_eq_some_iff.mp H
     obtain ⟨t363, A50, H⟩ := H
     replace H : (foolscapref09_All.l1 k1 x1_1 t359 x3_1 t363 0) = some r := H
     have A5 := Aside0.mk A50
     clear A50
     have H' := Aside0.mk H
     clear H
     obtain ⟨Ao6, co6, eo6⟩ := Kd.R_slice HO_2.out
     subst eo6
     have p362 : 0 ≤ (x3_1 : Int) := of_decide_eq_true (by first | (with_reducible assumption) | assumption)
     have q362 : x3_1 < (t359.length : Int) := of_decide_eq_true (by first | (with_reducible assumption) | assumption)
     obtain ⟨ad362, e362, hx362_0, hx362_1, hx362_2, hx362_3⟩ := at_T76 (Kd.R_reads' HO_2.out).2.2 x3_1 p362 q362
     cases e362
     replace p362 := eq_true p362
     replace q362 := eq_true q362
     go_wp2_with (first | ((with_reducible refine gate_callee (f := 30) rfl ?_); refine goesL_ (some 22) rfl rfl Tryz.func30 (by kernel_rfl) rfl #[.string ((rd_T76 t359 x3_1).f0)] rfl (by (try simp only [List.map_toArray, List.map_cons, List.map_nil]); first | done | rfl | (simp only [List.length_drop, List.length_take]; rfl) | (simp only [ByteArray.size_append, Int.natCast_add]; done) | (simp only [ByteArray.size_append, Int.natCast_add]; rfl) | (simp only [Array.mk.injEq, List.cons.injEq, Value.int.injEq, true_and, and_true]; (try simp only [mx, mn, wrap64] at *); omega)) ?_; (with_reducible refine (foolscapref09_words.calls k1 ((rd_T76 t359 x3_1).f0) t363 _ A5.out).mono ?_); rintro e w7 ⟨v364, rfl, ho0, hb⟩; refine ⟨_, rfl, ?_⟩; have n0_ := Aside0.mk (Kd.N_elder' (by (with_reducible repeat (first | apply Kd.N_alloc | apply Kd.N_drewN | apply Kd.N_drew)); exact HO_1.out) (Kd.R_base ho0) hb); have n1_ := Aside0.mk (Kd.R_below (by (with_reducible repeat (first | apply Kd.R_alloc | apply Kd.R_drewN | apply Kd.R_drew)); exact HO_2.out) hb); have n2_ := Aside0.mk (Kd.R_lower (Kd.R_newM (M := fun k_ => (w.heap.size ≤ k_)) ho0 (below_size (by repeat (first | (with_reducible first | exact HB.out | apply below_alloc | apply pw_below_drewN | apply below_drew1) | exact HB.out))) (fun k_ h_ => h_)) (below_size (by repeat (first | (with_reducible first | exact HB.out | apply below_alloc | apply pw_below_drewN | apply below_drew1) | exact HB.out)))); have n3_ := Aside0.mk (below_step (by repeat (first | (with_reducible first | exact HB.out | apply below_alloc | apply pw_below_drewN | apply below_drew1) | exact HB.out)) hb); clear HO_1; clear HO_2; clear HB; have HO_1 := n0_; have HO_2 := n1_; have HO365 := n2_; have HB := n3_; clear n0_ n1_ n2_ n3_; (try clear hb); (try clear hb2); (try clear hk); (try clear hi); (try clear ho0)))
     go_loopg [1, 5] k1 (fun kq v1 v5 w' => ∃ (x1_2 : List (S24)) (x5_2 : Int), v5 = .int .i64 x5_2 ∧ Aside0 (foolscapref09_All.l1 kq x1_2 t359 x3_1 t363 x5_2 = some r) ∧ Aside0 (kq ≤ k1) ∧ Aside0 (Kd.N k24 24 w' w.heap.size (fun k_ => (w.heap.size ≤ k_) ∧ some k_ ≠ ((.slice (some ad362) t359.length co6) : Value).ownBlock ∧ some k_ ≠ (v364 : Value).ownBlock) v1 x1_2) ∧ Aside0 (Kd.R k76 76 w' w.heap.size (fun k_ => (w.heap.size ≤ k_)) (.slice (some ad362) t359.length co6) t359) ∧ Aside0 (Kd.R Kd.string 9 w' w.heap.size (fun k_ => (w.heap.size ≤ k_)) v364 t363) ∧ Aside0 (Below w.heap.size w w'))
     case atStart => exact ⟨(x1_1), (0), (rflS), H', ⟨Nat.le_refl _⟩, ⟨by (with_reducible repeat (first | apply Kd.N_alloc | apply Kd.N_drewN | apply Kd.N_drew)); exact Kd.N_mono HO_1.out (fun _ hk => ⟨hk.1.1, ⟨hk.1.2, hk.2⟩⟩)⟩, ⟨by (with_reducible repeat (first | apply Kd.R_alloc | apply Kd.R_drewN | apply Kd.R_drew)); exact HO_2.out⟩, ⟨by (with_reducible repeat (first | apply Kd.R_alloc | apply Kd.R_drewN | apply Kd.R_drew)); exact Kd.R_mono HO365.out (fun _ hk => hk.1)⟩, ⟨by repeat (first | (with_reducible first | exact HB.out | apply below_alloc | apply pw_below_drewN | apply below_drew1) | exact HB.out)⟩⟩
     case round =>
      clear H'
      try clear c2
      try clear p2
      try clear c3
      try clear c3b0
      try clear p3
      try clear q3
      try clear hx3
      try clear c4
      try clear c4b0
      try clear p6
      try clear hx362_0
      try clear hx362_1
      try clear hx362_2
      try clear hx362_3
      try clear p2
      try clear p362
      try clear q362
      obtain ⟨x1_2, x5_2, rfl, HA, HK2, HO_1, HO_2, HO_4, HB⟩ := hrel
      cases gk with
      | zero => exact absurd HA.out (by simp [foolscapref09_All.l1])
      | succ k2 =>
       have H := HA.out
       clear HA
       simp only [foolscapref09_All.l1] at H
       by_cases c8 : x5_2 < (t363.length : Int)
       ·rw [if_pos c8] at H
        have c8b0 : decide (x5_2 < (t363.length : Int)) = true := decide_eq_true c8
        clear c8
        by_cases c9 : 0 ≤ x5_2
        ·rw [if_pos c9] at H
         have c9b0 : decide (0 ≤ x5_2) = true := decide_eq_true c9
         clear c9
         by_cases c10 : 0 ≤ x3_1
         ·rw [if_pos c10] at H
          have c10b0 : decide (0 ≤ x3_1) = true := decide_eq_true c10
          clear c10
          by_cases c11 : x3_1 < (t359.length : Int)
          ·rw [if_pos c11] at H
           have c11b0 : decide (x3_1 < (t359.length : Int)) = true := decide_eq_true c11
           clear c11
           have H' := Aside0.mk H
           clear H
           obtain ⟨Ao12, co12, eo12⟩ := Kd.R_slice HO_4.out
           subst eo12
           try go_wp2
           have n0_ := Aside0.mk (Kd.N_drew HO_1.out)
           have n1_ := Aside0.mk (Kd.R_drew HO_2.out)
           have n2_ := Aside0.mk (Kd.R_drew HO_4.out)
           have n3_ := Aside0.mk (below_drew1 HB.out)
           clear HO_1
           clear HO_2
           clear HO_4
           clear HB
           have HO_1 := n0_
           have HO_2 := n1_
           have HO_4 := n2_
           have HB := n3_
           clear n0_ n1_ n2_ n3_
           have p366 : 0 ≤ (x5_2 : Int) := of_decide_eq_true (by first | (with_reducible assumption) | assumption)
           have q366 : x5_2 < (t363.length : Int) := of_decide_eq_true (by first | (with_reducible assumption) | assumption)
           obtain ⟨ad366, e366, hx366_0⟩ := Kd.at_string (Kd.R_reads' HO_4.out).2.2 x5_2 p366 q366
           cases e366
           replace p366 := eq_true p366
           replace q366 := eq_true q366
           have p367 : 0 ≤ (x3_1 : Int) := of_decide_eq_true (by first | (with_reducible assumption) | assumption)
           have q367 : x3_1 < (t359.length : Int) := of_decide_eq_true (by first | (with_reducible assumption) | assumption)
           obtain ⟨ad367, e367, hx367_0, hx367_1, hx367_2, hx367_3⟩ := at_T76 (Kd.R_reads' HO_2.out).2.2 x3_1 p367 q367
           obtain rfl : ad362 = ad367 := (by injection e367)
           replace p367 := eq_true p367
           replace q367 := eq_true q367
           have p368 : 0 ≤ (x3_1 : Int) := of_decide_eq_true (by first | (with_reducible assumption) | assumption)
           have q368 : x3_1 < (t359.length : Int) := of_decide_eq_true (by first | (with_reducible assumption) | assumption)
           obtain ⟨ad368, e368, hx368_0, hx368_1, hx368_2, hx368_3⟩ := at_T76 (Kd.R_reads' HO_2.out).2.2 x3_1 p368 q368
           obtain rfl : ad362 = ad368 := (by injection e368)
           replace p368 := eq_true p368
           replace q368 := eq_true q368
           refine start_ (n := 17) (S := fun w' => w'.cell? (ad366.add (x5_2).toNat) = some (.string (rdOf ByteArray.empty t363 x5_2)) ∧ w'.cell? (ad362.add ((x3_1).toNat * 4)) = some (.string ((rd_T76 t359 x3_1).f0)) ∧ w'.cell? ⟨(ad362.add ((x3_1).toNat * 4)).block, (ad362.add ((x3_1).toNat * 4)).off + 1, none⟩ = some (.int .i64 ((rd_T76 t359 x3_1).f1)) ∧ w'.cell? ⟨(ad362.add ((x3_1).toNat * 4)).block, (ad362.add ((x3_1).toNat * 4)).off + 2, none⟩ = some (.int .i64 ((rd_T76 t359 x3_1).f2)) ∧ w'.cell? ⟨(ad362.add ((x3_1).toNat * 4)).block, (ad362.add ((x3_1).toNat * 4)).off + 3, none⟩ = some (.string ((rd_T76 t359 x3_1).f3)) ∧ w'.cell? (ad362.add ((x3_1).toNat * 4)) = some (.string ((rd_T76 t359 x3_1).f0)) ∧ w'.cell? ⟨(ad362.add ((x3_1).toNat * 4)).block, (ad362.add ((x3_1).toNat * 4)).off + 1, none⟩ = some (.int .i64 ((rd_T76 t359 x3_1).f1)) ∧ w'.cell? ⟨(ad362.add ((x3_1).toNat * 4)).block, (ad362.add ((x3_1).toNat * 4)).off + 2, none⟩ = some (.int .i64 ((rd_T76 t359 x3_1).f2)) ∧ w'.cell? ⟨(ad362.add ((x3_1).toNat * 4)).block, (ad362.add ((x3_1).toNat * 4)).off + 3, none⟩ = some (.string ((rd_T76 t359 x3_1).f3))) (ds := []) (Array.replicate 17 false) (by kernel_rfl) rfl rfl ⟨hx366_0, hx367_0, hx367_1, hx367_2, hx367_3, hx368_0, hx368_1, hx368_2, hx368_3⟩ (fun hHeld => ?_); refine with_tabW foolscapref09_All.tab10 foolscapref09_All.bits10 (fun HT_ HW_ => ?_)
           generalize wr.drew = w13 at HO_1 HO_2 HO_4 HB hx366_0 hx367_0 hx367_1 hx367_2 hx367_3 hx368_0 hx368_1 hx368_2 hx368_3 hHeld ⊢
           refine pure_ (i := 0) (N := some 29) (v := ?_) (a' := ?_) #[true, false, false, false, false, false, false, false, false, false, false, false, false, false, false, false, false] rfl rfl (any_of HT_.out (by kernel_rfl)) (fun _ _ _ h => h) (Or.inl ⟨by rfl, ?_⟩) ?_ ?_
           rotate_left
           ·intro w'
            go_simp
            with_reducible rfl
           rotate_left
           ·simp only [Act.put, List.setIfInBounds_toArray, List.set_cons_zero, List.set_cons_succ, i64_w, i32_w]
            rfl
           refine pure_ (i := 1) (N := some 30) (v := ?_) (a' := ?_) #[true, true, false, false, false, false, false, false, false, false, false, false, false, false, false, false, false] rfl rfl (any_of HT_.out (by kernel_rfl)) (fun _ _ _ h => h) (Or.inl ⟨by rfl, ?_⟩) ?_ ?_
           rotate_left
           ·intro w'
            go_simp
            with_reducible rfl
           rotate_left
           ·simp only [Act.put, List.setIfInBounds_toArray, List.set_cons_zero, List.set_cons_succ, i64_w, i32_w]
            rfl
           refine pure_ (i := 2) (N := some 31) (v := ?_) (a' := ?_) #[true, true, true, false, false, false, false, false, false, false, false, false, false, false, false, false, false] rfl rfl (any_of HT_.out (by kernel_rfl)) (fun _ _ _ h => h) (Or.inl ⟨by rfl, ?_⟩) ?_ ?_
           rotate_left
           ·intro w'
            go_simp
            with_reducible rfl
           rotate_left
           ·simp only [Act.put, List.setIfInBounds_toArray, List.set_cons_zero, List.set_cons_succ, i64_w, i32_w]
            rfl
           refine pure_ (i := 4) (N := some 33) (v := ?_) (a' := ?_) #[true, true, true, false, true, false, false, false, false, false, false, false, false, false, false, false, false] rfl rfl (any_of HT_.out (by kernel_rfl)) (fun _ _ _ h => h) (Or.inl ⟨by rfl, ?_⟩) ?_ ?_
           rotate_left
           ·intro w'
            go_simp
            with_reducible rfl
           rotate_left
           ·simp only [Act.put, List.setIfInBounds_toArray, List.set_cons_zero, List.set_cons_succ, i64_w, i32_w]
            rfl
           refine pure_ (i := 5) (N := some 34) (v := ?_) (a' := ?_) #[true, true, true, false, true, true, false, false, false, false, false, false, false, false, false, false, false] rfl rfl (any_of HT_.out (by kernel_rfl)) (fun _ _ _ h => h) (Or.inl ⟨by rfl, ?_⟩) ?_ ?_
           rotate_left
           ·intro w'
            go_simp
            with_reducible rfl
           rotate_left
           ·simp only [Act.put, List.setIfInBounds_toArray, List.set_cons_zero, List.set_cons_succ, i64_w, i32_w]
            rfl
           refine pure_ (i := 6) (N := some 35) (v := ?_) (a' := ?_) #[true, true, true, false, true, true, true, false, false, false, false, false, false, false, false, false, false] rfl rfl (any_of HT_.out (by kernel_rfl)) (fun _ _ _ h => h) (Or.inl ⟨by rfl, ?_⟩) ?_ ?_
           rotate_left
           ·intro w'
            go_simp
            with_reducible rfl
           rotate_left
           ·simp only [Act.put, List.setIfInBounds_toArray, List.set_cons_zero, List.set_cons_succ, i64_w, i32_w]
            rfl
           refine pure_ (i := 7) (N := some 36) (v := ?_) (a' := ?_) #[true, true, true, false, true, true, true, true, false, false, false, false, false, false, false, false, false] rfl rfl (any_of HT_.out (by kernel_rfl)) (fun _ _ _ h => h) (Or.inl ⟨by rfl, ?_⟩) ?_ ?_
           rotate_left
           ·intro w'
            go_simp
            with_reducible rfl
           rotate_left
           ·simp only [Act.put, List.setIfInBounds_toArray, List.set_cons_zero, List.set_cons_succ, i64_w, i32_w]
            rfl
           refine pure_ (i := 9) (N := some 38) (v := ?_) (a' := ?_) #[true, true, true, false, true, true, true, true, false, true, false, false, false, false, false, false, false] rfl rfl (any_of HT_.out (by kernel_rfl)) (fun _ _ _ h => h) (Or.inl ⟨by rfl, ?_⟩) ?_ ?_
           rotate_left
           ·intro w'
            go_simp
            with_reducible rfl
           rotate_left
           ·simp only [Act.put, List.setIfInBounds_toArray, List.set_cons_zero, List.set_cons_succ, i64_w, i32_w]
            rfl
           refine pure_ (i := 10) (N := some 39) (v := ?_) (a' := ?_) #[true, true, true, false, true, true, true, true, false, true, true, false, false, false, false, false, false] rfl rfl (any_of HT_.out (by kernel_rfl)) (fun _ _ _ h => h) (Or.inl ⟨by rfl, ?_⟩) ?_ ?_
           rotate_left
           ·intro w'
            go_simp
            with_reducible rfl
           rotate_left
           ·simp only [Act.put, List.setIfInBounds_toArray, List.set_cons_zero, List.set_cons_succ, i64_w, i32_w]
            rfl
           refine pure_ (i := 11) (N := some 40) (v := ?_) (a' := ?_) #[true, true, true, false, true, true, true, true, false, true, true, true, false, false, false, false, false] rfl rfl (any_of HT_.out (by kernel_rfl)) (fun _ _ _ h => h) (Or.inl ⟨by rfl, ?_⟩) ?_ ?_
           rotate_left
           ·intro w'
            go_simp
            with_reducible rfl
           rotate_left
           ·simp only [Act.put, List.setIfInBounds_toArray, List.set_cons_zero, List.set_cons_succ, i64_w, i32_w]
            rfl
           refine pure_ (i := 12) (N := some 41) (v := ?_) (a' := ?_) #[true, true, true, false, true, true, true, true, false, true, true, true, true, false, false, false, false] rfl rfl (any_of HT_.out (by kernel_rfl)) (fun _ _ _ h => h) (Or.inl ⟨by rfl, ?_⟩) ?_ ?_
           rotate_left
           ·intro w'
            go_simp
            with_reducible rfl
           rotate_left
           ·simp only [Act.put, List.setIfInBounds_toArray, List.set_cons_zero, List.set_cons_succ, i64_w, i32_w]
            rfl
           refine take_ (i := 3) (N := some 32) (v := ?_) (a' := ?_) #[true, true, true, true, true, true, true, true, false, true, true, true, true, false, false, false, false] rfl rfl (take_ofW HT_.out HW_.out (by kernel_rfl)) (fun _ _ _ h => h) (Or.inl ⟨by rfl, ?_⟩) hHeld ?_ ?_
           rotate_left
           ·rintro w' ⟨s0, s1, s2, s3, s4, s5, s6, s7, s8⟩
            go_simp
            with_reducible rfl
           rotate_left
           ·simp only [Act.put, List.setIfInBounds_toArray, List.set_cons_zero, List.set_cons_succ, i64_w, i32_w]
            rfl
           refine take_ (i := 8) (N := some 37) (v := ?_) (a' := ?_) #[true, true, true, true, true, true, true, true, true, true, true, true, true, false, false, false, false] rfl rfl (take_ofW HT_.out HW_.out (by kernel_rfl)) (fun _ _ _ h => h) (Or.inl ⟨by rfl, ?_⟩) hHeld ?_ ?_
           rotate_left
           ·rintro w' ⟨s0, s1, s2, s3, s4, s5, s6, s7, s8⟩
            go_simp
            with_reducible rfl
           rotate_left
           ·simp only [Act.put, List.setIfInBounds_toArray, List.set_cons_zero, List.set_cons_succ, i64_w, i32_w]
            rfl
           refine take_ (i := 13) (N := some 42) (v := ?_) (a' := ?_) #[true, true, true, true, true, true, true, true, true, true, true, true, true, true, false, false, false] rfl rfl (take_ofW HT_.out HW_.out (by kernel_rfl)) (fun _ _ _ h => h) (Or.inl ⟨by rfl, ?_⟩) hHeld ?_ ?_
           rotate_left
           ·rintro w' ⟨s0, s1, s2, s3, s4, s5, s6, s7, s8⟩
            go_simp
            with_reducible rfl
           rotate_left
           ·simp only [Act.put, List.setIfInBounds_toArray, List.set_cons_zero, List.set_cons_succ, i64_w, i32_w]
            rfl
           refine pure_ (i := 14) (N := some 43) (v := ?_) (a' := ?_) #[true, true, true, true, true, true, true, true, true, true, true, true, true, true, true, false, false] rfl rfl (any_of HT_.out (by kernel_rfl)) (fun _ _ _ h => h) (Or.inl ⟨by rfl, ?_⟩) ?_ ?_
           rotate_left
           ·intro w'
            go_simp
            with_reducible rfl
           rotate_left
           ·simp only [Act.put, List.setIfInBounds_toArray, List.set_cons_zero, List.set_cons_succ, i64_w, i32_w]
            rfl
           refine one_ (i := 15) (N := some 6) #[true, true, true, true, true, true, true, true, true, true, true, true, true, true, true, true, false] rfl rfl (one_of HT_.out (by kernel_rfl)) (by decide) (fun K hK => ?_)
           refine box_step ?hg (N := 6) ?hd (cs := #[.string (⟨#[]⟩ : ByteArray), .int .i64 0, .int .i64 0, .slice none 0 0]) (t := 24) ?hr ?_; (case hd => rfl); (case hg => rfl); (case hr => first | (go_simp; done) | (go_simp; rfl))
           intro gb369 hg w14 hbox hb
           have HS0_ := (hb.cell (World.block_lt_of_cell? _ _ (hHeld.1))).trans (hHeld.1)
           have HS1_ := (hb.cell (World.block_lt_of_cell? _ _ (hHeld.2.1))).trans (hHeld.2.1)
           have HS2_ := (hb.cell (World.block_lt_of_cell? _ _ (hHeld.2.2.1))).trans (hHeld.2.2.1)
           have HS3_ := (hb.cell (World.block_lt_of_cell? _ _ (hHeld.2.2.2.1))).trans (hHeld.2.2.2.1)
           have HS4_ := (hb.cell (World.block_lt_of_cell? _ _ (hHeld.2.2.2.2.1))).trans (hHeld.2.2.2.2.1)
           have HS5_ := (hb.cell (World.block_lt_of_cell? _ _ (hHeld.2.2.2.2.2.1))).trans (hHeld.2.2.2.2.2.1)
           have HS6_ := (hb.cell (World.block_lt_of_cell? _ _ (hHeld.2.2.2.2.2.2.1))).trans (hHeld.2.2.2.2.2.2.1)
           have HS7_ := (hb.cell (World.block_lt_of_cell? _ _ (hHeld.2.2.2.2.2.2.2.1))).trans (hHeld.2.2.2.2.2.2.2.1)
           have HS8_ := (hb.cell (World.block_lt_of_cell? _ _ (hHeld.2.2.2.2.2.2.2.2))).trans (hHeld.2.2.2.2.2.2.2.2)
           have n0_ := Aside0.mk (Kd.N_below (Kd.N_elderB (by (with_reducible repeat (first | apply Kd.N_alloc | apply Kd.N_drewN | apply Kd.N_drew)); exact HO_1.out) gb369 (Nat.le_of_eq hg.symm)) hb)
           have n1_ := Aside0.mk (Kd.R_below (by (with_reducible repeat (first | apply Kd.R_alloc | apply Kd.R_drewN | apply Kd.R_drew)); exact HO_2.out) hb)
           have n2_ := Aside0.mk (Kd.R_below (by (with_reducible repeat (first | apply Kd.R_alloc | apply Kd.R_drewN | apply Kd.R_drew)); exact HO_4.out) hb)
           have n3_ := Aside0.mk (below_step (by repeat (first | (with_reducible first | exact HB.out | apply below_alloc | apply pw_below_drewN | apply below_drew1) | exact HB.out)) hb)
           have n4_ := Aside0.mk (hbox)
           have n5_ := Aside0.mk ((by rw [hg]; exact (below_size (by repeat (first | (with_reducible first | exact HB.out | apply below_alloc | apply pw_below_drewN | apply below_drew1) | exact HB.out))) : w.heap.size ≤ gb369))
           have n6_ := Aside0.mk ((by rw [hg]; exact (below_size (by repeat (first | (with_reducible first | exact HB.out | apply below_alloc | apply pw_below_drewN | apply below_drew1) | exact HB.out))) : w.heap.size ≤ gb369))
           clear HO_1
           clear HO_2
           clear HO_4
           clear HB
           have HO_1 := n0_
           have HO_2 := n1_
           have HO_4 := n2_
           have HB := n3_
           have BK369 := n4_
           have GW369 := n5_
           have GE369 := n6_
           clear n0_ n1_ n2_ n3_ n4_ n5_ n6_
           clear hb hbox hg
           refine hK.out _ _ ⟨HS0_, HS1_, HS2_, HS3_, HS4_, HS5_, HS6_, HS7_, HS8_⟩ (fun hHeld => ?_)
           clear hK K
           refine norm_ (a' := ?_) ?_ ?_
           rotate_left
           ·show Act.put _ (some 6) _ = _
            simp only [Act.put, List.setIfInBounds_toArray, List.set_cons_zero, List.set_cons_succ, i64_w, i32_w]
            rfl
           refine one_ (i := 16) (N := none) #[true, true, true, true, true, true, true, true, true, true, true, true, true, true, true, true, true] rfl rfl (one_of HT_.out (by kernel_rfl)) (by decide) (fun K hK => ?_)
           have hs15 : w14.cell? ⟨gb369, 0, none⟩ = some (.string (⟨#[]⟩ : ByteArray)) := (blk_cell BK369.out 0).trans rfl
           have hfs15 := blk_frozen BK369.out 0
           have hs16 : w14.cell? ⟨gb369, 1, none⟩ = some (.int .i64 0) := (blk_cell BK369.out 1).trans rfl
           have hfs16 := blk_frozen BK369.out 1
           have hs17 : w14.cell? ⟨gb369, 2, none⟩ = some (.int .i64 0) := (blk_cell BK369.out 2).trans rfl
           have hfs17 := blk_frozen BK369.out 2
           have hs18 : w14.cell? ⟨gb369, 3, none⟩ = some (.slice none 0 0) := (blk_cell BK369.out 3).trans rfl
           have hfs18 := blk_frozen BK369.out 3
           refine skip_ (w1 := ?_) (by rfl) rfl ?_ ?_
           rotate_left
           ·go_simp
            rfl
           refine hK.out _ _ ⟨((cell_far (p := ⟨gb369, _, none⟩) (by first | exact Kd.own_blk (Kd.R_ne HO_4.out BK369.out (by decide)) | (rw [add_block]; exact Kd.own_blk (Kd.R_ne HO_4.out BK369.out (by decide))) | (show (Addr.add _ _).block ≠ _; rw [add_block]; exact Kd.own_blk (Kd.R_ne HO_4.out BK369.out (by decide))) | (dsimp only; exact Kd.own_blk (Kd.R_ne HO_4.out BK369.out (by decide)))) _).trans (((cell_far (p := ⟨gb369, _, none⟩) (by first | exact Kd.own_blk (Kd.R_ne HO_4.out BK369.out (by decide)) | (rw [add_block]; exact Kd.own_blk (Kd.R_ne HO_4.out BK369.out (by decide))) | (show (Addr.add _ _).block ≠ _; rw [add_block]; exact Kd.own_blk (Kd.R_ne HO_4.out BK369.out (by decide))) | (dsimp only; exact Kd.own_blk (Kd.R_ne HO_4.out BK369.out (by decide)))) _).trans (((cell_far (p := ⟨gb369, _, none⟩) (by first | exact Kd.own_blk (Kd.R_ne HO_4.out BK369.out (by decide)) | (rw [add_block]; exact Kd.own_blk (Kd.R_ne HO_4.out BK369.out (by decide))) | (show (Addr.add _ _).block ≠ _; rw [add_block]; exact Kd.own_blk (Kd.R_ne HO_4.out BK369.out (by decide))) | (dsimp only; exact Kd.own_blk (Kd.R_ne HO_4.out BK369.out (by decide)))) _).trans (((cell_far (p := ⟨gb369, _, none⟩) (by first | exact Kd.own_blk (Kd.R_ne HO_4.out BK369.out (by decide)) | (rw [add_block]; exact Kd.own_blk (Kd.R_ne HO_4.out BK369.out (by decide))) | (show (Addr.add _ _).block ≠ _; rw [add_block]; exact Kd.own_blk (Kd.R_ne HO_4.out BK369.out (by decide))) | (dsimp only; exact Kd.own_blk (Kd.R_ne HO_4.out BK369.out (by decide)))) _).trans (hHeld.1)))))))), ((cell_far (p := ⟨gb369, _, none⟩) (by first | exact Kd.own_blk (Kd.R_ne HO_2.out BK369.out (by decide)) | (rw [add_block]; exact Kd.own_blk (Kd.R_ne HO_2.out BK369.out (by decide))) | (show (Addr.add _ _).block ≠ _; rw [add_block]; exact Kd.own_blk (Kd.R_ne HO_2.out BK369.out (by decide))) | (dsimp only; exact Kd.own_blk (Kd.R_ne HO_2.out BK369.out (by decide)))) _).trans (((cell_far (p := ⟨gb369, _, none⟩) (by first | exact Kd.own_blk (Kd.R_ne HO_2.out BK369.out (by decide)) | (rw [add_block]; exact Kd.own_blk (Kd.R_ne HO_2.out BK369.out (by decide))) | (show (Addr.add _ _).block ≠ _; rw [add_block]; exact Kd.own_blk (Kd.R_ne HO_2.out BK369.out (by decide))) | (dsimp only; exact Kd.own_blk (Kd.R_ne HO_2.out BK369.out (by decide)))) _).trans (((cell_far (p := ⟨gb369, _, none⟩) (by first | exact Kd.own_blk (Kd.R_ne HO_2.out BK369.out (by decide)) | (rw [add_block]; exact Kd.own_blk (Kd.R_ne HO_2.out BK369.out (by decide))) | (show (Addr.add _ _).block ≠ _; rw [add_block]; exact Kd.own_blk (Kd.R_ne HO_2.out BK369.out (by decide))) | (dsimp only; exact Kd.own_blk (Kd.R_ne HO_2.out BK369.out (by decide)))) _).trans (((cell_far (p := ⟨gb369, _, none⟩) (by first | exact Kd.own_blk (Kd.R_ne HO_2.out BK369.out (by decide)) | (rw [add_block]; exact Kd.own_blk (Kd.R_ne HO_2.out BK369.out (by decide))) | (show (Addr.add _ _).block ≠ _; rw [add_block]; exact Kd.own_blk (Kd.R_ne HO_2.out BK369.out (by decide))) | (dsimp only; exact Kd.own_blk (Kd.R_ne HO_2.out BK369.out (by decide)))) _).trans (hHeld.2.1)))))))), ((cell_far (p := ⟨gb369, _, none⟩) (by first | exact Kd.own_blk (Kd.R_ne HO_2.out BK369.out (by decide)) | (rw [add_block]; exact Kd.own_blk (Kd.R_ne HO_2.out BK369.out (by decide))) | (show (Addr.add _ _).block ≠ _; rw [add_block]; exact Kd.own_blk (Kd.R_ne HO_2.out BK369.out (by decide))) | (dsimp only; exact Kd.own_blk (Kd.R_ne HO_2.out BK369.out (by decide)))) _).trans (((cell_far (p := ⟨gb369, _, none⟩) (by first | exact Kd.own_blk (Kd.R_ne HO_2.out BK369.out (by decide)) | (rw [add_block]; exact Kd.own_blk (Kd.R_ne HO_2.out BK369.out (by decide))) | (show (Addr.add _ _).block ≠ _; rw [add_block]; exact Kd.own_blk (Kd.R_ne HO_2.out BK369.out (by decide))) | (dsimp only; exact Kd.own_blk (Kd.R_ne HO_2.out BK369.out (by decide)))) _).trans (((cell_far (p := ⟨gb369, _, none⟩) (by first | exact Kd.own_blk (Kd.R_ne HO_2.out BK369.out (by decide)) | (rw [add_block]; exact Kd.own_blk (Kd.R_ne HO_2.out BK369.out (by decide))) | (show (Addr.add _ _).block ≠ _; rw [add_block]; exact Kd.own_blk (Kd.R_ne HO_2.out BK369.out (by decide))) | (dsimp only; exact Kd.own_blk (Kd.R_ne HO_2.out BK369.out (by decide)))) _).trans (((cell_far (p := ⟨gb369, _, none⟩) (by first | exact Kd.own_blk (Kd.R_ne HO_2.out BK369.out (by decide)) | (rw [add_block]; exact Kd.own_blk (Kd.R_ne HO_2.out BK369.out (by decide))) | (show (Addr.add _ _).block ≠ _; rw [add_block]; exact Kd.own_blk (Kd.R_ne HO_2.out BK369.out (by decide))) | (dsimp only; exact Kd.own_blk (Kd.R_ne HO_2.out BK369.out (by decide)))) _).trans (hHeld.2.2.1)))))))), ((cell_far (p := ⟨gb369, _, none⟩) (by first | exact Kd.own_blk (Kd.R_ne HO_2.out BK369.out (by decide)) | (rw [add_block]; exact Kd.own_blk (Kd.R_ne HO_2.out BK369.out (by decide))) | (show (Addr.add _ _).block ≠ _; rw [add_block]; exact Kd.own_blk (Kd.R_ne HO_2.out BK369.out (by decide))) | (dsimp only; exact Kd.own_blk (Kd.R_ne HO_2.out BK369.out (by decide)))) _).trans (((cell_far (p := ⟨gb369, _, none⟩) (by first | exact Kd.own_blk (Kd.R_ne HO_2.out BK369.out (by decide)) | (rw [add_block]; exact Kd.own_blk (Kd.R_ne HO_2.out BK369.out (by decide))) | (show (Addr.add _ _).block ≠ _; rw [add_block]; exact Kd.own_blk (Kd.R_ne HO_2.out BK369.out (by decide))) | (dsimp only; exact Kd.own_blk (Kd.R_ne HO_2.out BK369.out (by decide)))) _).trans (((cell_far (p := ⟨gb369, _, none⟩) (by first | exact Kd.own_blk (Kd.R_ne HO_2.out BK369.out (by decide)) | (rw [add_block]; exact Kd.own_blk (Kd.R_ne HO_2.out BK369.out (by decide))) | (show (Addr.add _ _).block ≠ _; rw [add_block]; exact Kd.own_blk (Kd.R_ne HO_2.out BK369.out (by decide))) | (dsimp only; exact Kd.own_blk (Kd.R_ne HO_2.out BK369.out (by decide)))) _).trans (((cell_far (p := ⟨gb369, _, none⟩) (by first | exact Kd.own_blk (Kd.R_ne HO_2.out BK369.out (by decide)) | (rw [add_block]; exact Kd.own_blk (Kd.R_ne HO_2.out BK369.out (by decide))) | (show (Addr.add _ _).block ≠ _; rw [add_block]; exact Kd.own_blk (Kd.R_ne HO_2.out BK369.out (by decide))) | (dsimp only; exact Kd.own_blk (Kd.R_ne HO_2.out BK369.out (by decide)))) _).trans (hHeld.2.2.2.1)))))))), ((cell_far (p := ⟨gb369, _, none⟩) (by first | exact Kd.own_blk (Kd.R_ne HO_2.out BK369.out (by decide)) | (rw [add_block]; exact Kd.own_blk (Kd.R_ne HO_2.out BK369.out (by decide))) | (show (Addr.add _ _).block ≠ _; rw [add_block]; exact Kd.own_blk (Kd.R_ne HO_2.out BK369.out (by decide))) | (dsimp only; exact Kd.own_blk (Kd.R_ne HO_2.out BK369.out (by decide)))) _).trans (((cell_far (p := ⟨gb369, _, none⟩) (by first | exact Kd.own_blk (Kd.R_ne HO_2.out BK369.out (by decide)) | (rw [add_block]; exact Kd.own_blk (Kd.R_ne HO_2.out BK369.out (by decide))) | (show (Addr.add _ _).block ≠ _; rw [add_block]; exact Kd.own_blk (Kd.R_ne HO_2.out BK369.out (by decide))) | (dsimp only; exact Kd.own_blk (Kd.R_ne HO_2.out BK369.out (by decide)))) _).trans (((cell_far (p := ⟨gb369, _, none⟩) (by first | exact Kd.own_blk (Kd.R_ne HO_2.out BK369.out (by decide)) | (rw [add_block]; exact Kd.own_blk (Kd.R_ne HO_2.out BK369.out (by decide))) | (show (Addr.add _ _).block ≠ _; rw [add_block]; exact Kd.own_blk (Kd.R_ne HO_2.out BK369.out (by decide))) | (dsimp only; exact Kd.own_blk (Kd.R_ne HO_2.out BK369.out (by decide)))) _).trans (((cell_far (p := ⟨gb369, _, none⟩) (by first | exact Kd.own_blk (Kd.R_ne HO_2.out BK369.out (by decide)) | (rw [add_block]; exact Kd.own_blk (Kd.R_ne HO_2.out BK369.out (by decide))) | (show (Addr.add _ _).block ≠ _; rw [add_block]; exact Kd.own_blk (Kd.R_ne HO_2.out BK369.out (by decide))) | (dsimp only; exact Kd.own_blk (Kd.R_ne HO_2.out BK369.out (by decide)))) _).trans (hHeld.2.2.2.2.1)))))))), ((cell_far (p := ⟨gb369, _, none⟩) (by first | exact Kd.own_blk (Kd.R_ne HO_2.out BK369.out (by decide)) | (rw [add_block]; exact Kd.own_blk (Kd.R_ne HO_2.out BK369.out (by decide))) | (show (Addr.add _ _).block ≠ _; rw [add_block]; exact Kd.own_blk (Kd.R_ne HO_2.out BK369.out (by decide))) | (dsimp only; exact Kd.own_blk (Kd.R_ne HO_2.out BK369.out (by decide)))) _).trans (((cell_far (p := ⟨gb369, _, none⟩) (by first | exact Kd.own_blk (Kd.R_ne HO_2.out BK369.out (by decide)) | (rw [add_block]; exact Kd.own_blk (Kd.R_ne HO_2.out BK369.out (by decide))) | (show (Addr.add _ _).block ≠ _; rw [add_block]; exact Kd.own_blk (Kd.R_ne HO_2.out BK369.out (by decide))) | (dsimp only; exact Kd.own_blk (Kd.R_ne HO_2.out BK369.out (by decide)))) _).trans (((cell_far (p := ⟨gb369, _, none⟩) (by first | exact Kd.own_blk (Kd.R_ne HO_2.out BK369.out (by decide)) | (rw [add_block]; exact Kd.own_blk (Kd.R_ne HO_2.out BK369.out (by decide))) | (show (Addr.add _ _).block ≠ _; rw [add_block]; exact Kd.own_blk (Kd.R_ne HO_2.out BK369.out (by decide))) | (dsimp only; exact Kd.own_blk (Kd.R_ne HO_2.out BK369.out (by decide)))) _).trans (((cell_far (p := ⟨gb369, _, none⟩) (by first | exact Kd.own_blk (Kd.R_ne HO_2.out BK369.out (by decide)) | (rw [add_block]; exact Kd.own_blk (Kd.R_ne HO_2.out BK369.out (by decide))) | (show (Addr.add _ _).block ≠ _; rw [add_block]; exact Kd.own_blk (Kd.R_ne HO_2.out BK369.out (by decide))) | (dsimp only; exact Kd.own_blk (Kd.R_ne HO_2.out BK369.out (by decide)))) _).trans (hHeld.2.2.2.2.2.1)))))))), ((cell_far (p := ⟨gb369, _, none⟩) (by first | exact Kd.own_blk (Kd.R_ne HO_2.out BK369.out (by decide)) | (rw [add_block]; exact Kd.own_blk (Kd.R_ne HO_2.out BK369.out (by decide))) | (show (Addr.add _ _).block ≠ _; rw [add_block]; exact Kd.own_blk (Kd.R_ne HO_2.out BK369.out (by decide))) | (dsimp only; exact Kd.own_blk (Kd.R_ne HO_2.out BK369.out (by decide)))) _).trans (((cell_far (p := ⟨gb369, _, none⟩) (by first | exact Kd.own_blk (Kd.R_ne HO_2.out BK369.out (by decide)) | (rw [add_block]; exact Kd.own_blk (Kd.R_ne HO_2.out BK369.out (by decide))) | (show (Addr.add _ _).block ≠ _; rw [add_block]; exact Kd.own_blk (Kd.R_ne HO_2.out BK369.out (by decide))) | (dsimp only; exact Kd.own_blk (Kd.R_ne HO_2.out BK369.out (by decide)))) _).trans (((cell_far (p := ⟨gb369, _, none⟩) (by first | exact Kd.own_blk (Kd.R_ne HO_2.out BK369.out (by decide)) | (rw [add_block]; exact Kd.own_blk (Kd.R_ne HO_2.out BK369.out (by decide))) | (show (Addr.add _ _).block ≠ _; rw [add_block]; exact Kd.own_blk (Kd.R_ne HO_2.out BK369.out (by decide))) | (dsimp only; exact Kd.own_blk (Kd.R_ne HO_2.out BK369.out (by decide)))) _).trans (((cell_far (p := ⟨gb369, _, none⟩) (by first | exact Kd.own_blk (Kd.R_ne HO_2.out BK369.out (by decide)) | (rw [add_block]; exact Kd.own_blk (Kd.R_ne HO_2.out BK369.out (by decide))) | (show (Addr.add _ _).block ≠ _; rw [add_block]; exact Kd.own_blk (Kd.R_ne HO_2.out BK369.out (by decide))) | (dsimp only; exact Kd.own_blk (Kd.R_ne HO_2.out BK369.out (by decide)))) _).trans (hHeld.2.2.2.2.2.2.1)))))))), ((cell_far (p := ⟨gb369, _, none⟩) (by first | exact Kd.own_blk (Kd.R_ne HO_2.out BK369.out (by decide)) | (rw [add_block]; exact Kd.own_blk (Kd.R_ne HO_2.out BK369.out (by decide))) | (show (Addr.add _ _).block ≠ _; rw [add_block]; exact Kd.own_blk (Kd.R_ne HO_2.out BK369.out (by decide))) | (dsimp only; exact Kd.own_blk (Kd.R_ne HO_2.out BK369.out (by decide)))) _).trans (((cell_far (p := ⟨gb369, _, none⟩) (by first | exact Kd.own_blk (Kd.R_ne HO_2.out BK369.out (by decide)) | (rw [add_block]; exact Kd.own_blk (Kd.R_ne HO_2.out BK369.out (by decide))) | (show (Addr.add _ _).block ≠ _; rw [add_block]; exact Kd.own_blk (Kd.R_ne HO_2.out BK369.out (by decide))) | (dsimp only; exact Kd.own_blk (Kd.R_ne HO_2.out BK369.out (by decide)))) _).trans (((cell_far (p := ⟨gb369, _, none⟩) (by first | exact Kd.own_blk (Kd.R_ne HO_2.out BK369.out (by decide)) | (rw [add_block]; exact Kd.own_blk (Kd.R_ne HO_2.out BK369.out (by decide))) | (show (Addr.add _ _).block ≠ _; rw [add_block]; exact Kd.own_blk (Kd.R_ne HO_2.out BK369.out (by decide))) | (dsimp only; exact Kd.own_blk (Kd.R_ne HO_2.out BK369.out (by decide)))) _).trans (((cell_far (p := ⟨gb369, _, none⟩) (by first | exact Kd.own_blk (Kd.R_ne HO_2.out BK369.out (by decide)) | (rw [add_block]; exact Kd.own_blk (Kd.R_ne HO_2.out BK369.out (by decide))) | (show (Addr.add _ _).block ≠ _; rw [add_block]; exact Kd.own_blk (Kd.R_ne HO_2.out BK369.out (by decide))) | (dsimp only; exact Kd.own_blk (Kd.R_ne HO_2.out BK369.out (by decide)))) _).trans (hHeld.2.2.2.2.2.2.2.1)))))))), ((cell_far (p := ⟨gb369, _, none⟩) (by first | exact Kd.own_blk (Kd.R_ne HO_2.out BK369.out (by decide)) | (rw [add_block]; exact Kd.own_blk (Kd.R_ne HO_2.out BK369.out (by decide))) | (show (Addr.add _ _).block ≠ _; rw [add_block]; exact Kd.own_blk (Kd.R_ne HO_2.out BK369.out (by decide))) | (dsimp only; exact Kd.own_blk (Kd.R_ne HO_2.out BK369.out (by decide)))) _).trans (((cell_far (p := ⟨gb369, _, none⟩) (by first | exact Kd.own_blk (Kd.R_ne HO_2.out BK369.out (by decide)) | (rw [add_block]; exact Kd.own_blk (Kd.R_ne HO_2.out BK369.out (by decide))) | (show (Addr.add _ _).block ≠ _; rw [add_block]; exact Kd.own_blk (Kd.R_ne HO_2.out BK369.out (by decide))) | (dsimp only; exact Kd.own_blk (Kd.R_ne HO_2.out BK369.out (by decide)))) _).trans (((cell_far (p := ⟨gb369, _, none⟩) (by first | exact Kd.own_blk (Kd.R_ne HO_2.out BK369.out (by decide)) | (rw [add_block]; exact Kd.own_blk (Kd.R_ne HO_2.out BK369.out (by decide))) | (show (Addr.add _ _).block ≠ _; rw [add_block]; exact Kd.own_blk (Kd.R_ne HO_2.out BK369.out (by decide))) | (dsimp only; exact Kd.own_blk (Kd.R_ne HO_2.out BK369.out (by decide)))) _).trans (((cell_far (p := ⟨gb369, _, none⟩) (by first | exact Kd.own_blk (Kd.R_ne HO_2.out BK369.out (by decide)) | (rw [add_block]; exact Kd.own_blk (Kd.R_ne HO_2.out BK369.out (by decide))) | (show (Addr.add _ _).block ≠ _; rw [add_block]; exact Kd.own_blk (Kd.R_ne HO_2.out BK369.out (by decide))) | (dsimp only; exact Kd.own_blk (Kd.R_ne HO_2.out BK369.out (by decide)))) _).trans (hHeld.2.2.2.2.2.2.2.2))))))))⟩ (fun hHeld => ?_)
           clear hK K
           refine done_ (done_of HT_.out (by kernel_rfl)) ?_
           try go_wp2
           go_loopg [7] k2 (fun kq v7 w' => ∃ (x7_3 : Int) (x370003_3 : List Int) (u370003 : Value), v7 = .int .i64 x7_3 ∧ Aside0 (foolscapref09_All.l2 kq x1_2 t359 x3_1 t363 x5_2 x7_3 (rdOf ByteArray.empty t363 x5_2) ((rd_T76 t359 x3_1).f1) ((rd_T76 t359 x3_1).f2) x370003_3 = some r) ∧ Aside0 (kq ≤ k2) ∧ Aside0 (Kd.N k24 24 w' w.heap.size (fun k_ => (w.heap.size ≤ k_) ∧ some k_ ≠ ((.slice (some ad362) t359.length co6) : Value).ownBlock ∧ some k_ ≠ ((.slice (some ad366) t363.length co12) : Value).ownBlock ∧ some k_ ≠ (u370003 : Value).ownBlock ∧ k_ ≠ gb369) u1 x1_2) ∧ Aside0 (Kd.R k76 76 w' w.heap.size (fun k_ => (w.heap.size ≤ k_)) (.slice (some ad362) t359.length co6) t359) ∧ Aside0 (Kd.R Kd.string 9 w' w.heap.size (fun k_ => (w.heap.size ≤ k_)) (.slice (some ad366) t363.length co12) t363) ∧ Aside0 (Kd.R (Kd.int .i64) 62 w' w.heap.size (fun k_ => (w.heap.size ≤ k_)) u370003 x370003_3) ∧ Aside0 (w'.heap[gb369]? = some (.cells #[.string (rdOf ByteArray.empty t363 x5_2), .int .i64 ((rd_T76 t359 x3_1).f1), .int .i64 ((rd_T76 t359 x3_1).f2), u370003] 24 (0, 0))) ∧ Aside0 (Below w.heap.size w w'))
           case atStart => exact ⟨(0), (([] : List Int)), (.slice none 0 0), (rflS), H', ⟨Nat.le_refl _⟩, ⟨by (with_reducible repeat (first | apply Kd.N_alloc | apply Kd.N_drewN | apply Kd.N_drew)); exact Kd.N_mono (Kd.N_far (p := ⟨gb369, 3, none⟩) (Kd.N_far (p := ⟨gb369, 2, none⟩) (Kd.N_far (p := ⟨gb369, 1, none⟩) (Kd.N_far (p := ⟨gb369, 0, none⟩) (Kd.N_mono HO_1.out (fun k_ hk => (⟨hk, hk.2⟩ : _ ∧ k_ ≠ gb369))) (fun _ hk => hk.2) (.string (rdOf ByteArray.empty t363 x5_2))) (fun _ hk => hk.2) (.int .i64 ((rd_T76 t359 x3_1).f1))) (fun _ hk => hk.2) (.int .i64 ((rd_T76 t359 x3_1).f2))) (fun _ hk => hk.2) (.slice none 0 0)) (fun _ hk => ⟨hk.1.1.1, ⟨hk.1.1.2.1, ⟨hk.1.1.2.2, ⟨(by simp [Value.ownBlock]), hk.1.2⟩⟩⟩⟩)⟩, ⟨by (with_reducible repeat (first | apply Kd.R_alloc | apply Kd.R_drewN | apply Kd.R_drew)); exact Kd.R_mono (Kd.R_far (p := ⟨gb369, 3, none⟩) (Kd.R_far (p := ⟨gb369, 2, none⟩) (Kd.R_far (p := ⟨gb369, 1, none⟩) (Kd.R_far (p := ⟨gb369, 0, none⟩) (Kd.R_types HO_2.out BK369.out (by decide)) (fun _ hk => hk.2) (.string (rdOf ByteArray.empty t363 x5_2))) (fun _ hk => hk.2) (.int .i64 ((rd_T76 t359 x3_1).f1))) (fun _ hk => hk.2) (.int .i64 ((rd_T76 t359 x3_1).f2))) (fun _ hk => hk.2) (.slice none 0 0)) (fun _ hk => hk.1)⟩, ⟨by (with_reducible repeat (first | apply Kd.R_alloc | apply Kd.R_drewN | apply Kd.R_drew)); exact Kd.R_mono (Kd.R_far (p := ⟨gb369, 3, none⟩) (Kd.R_far (p := ⟨gb369, 2, none⟩) (Kd.R_far (p := ⟨gb369, 1, none⟩) (Kd.R_far (p := ⟨gb369, 0, none⟩) (Kd.R_types HO_4.out BK369.out (by decide)) (fun _ hk => hk.2) (.string (rdOf ByteArray.empty t363 x5_2))) (fun _ hk => hk.2) (.int .i64 ((rd_T76 t359 x3_1).f1))) (fun _ hk => hk.2) (.int .i64 ((rd_T76 t359 x3_1).f2))) (fun _ hk => hk.2) (.slice none 0 0)) (fun _ hk => hk.1)⟩, ⟨by first | exact Kd.R_nil _ _ _ _ _ | exact Kd.N_nil _ _ _ _ _ | exact Kd.V_nil _ _ _ _ _ | exact Kd.Q_nil _ _ _ _ _ | exact Kd.S_nil _ _ _ _ _⟩, ⟨by (with_reducible repeat (first | refine blk_drewN ?_ _ | refine blk_drew ?_ | refine blk_alloc ?_ _)); refine put4 (.string (⟨#[]⟩ : ByteArray)) (.int .i64 0) (.int .i64 0) (.slice none 0 0) ?_; (with_reducible repeat (first | refine blk_drewN ?_ _ | refine blk_drew ?_ | refine blk_alloc ?_ _)); exact BK369.out⟩, ⟨by repeat (first | (with_reducible first | exact HB.out | apply below_alloc | apply pw_below_drewN | apply below_drew1 | refine below_set ?_ GE369.out) | exact HB.out)⟩⟩
           case round =>
            clear H'
            try clear c1
            try clear c2
            try clear p2
            try clear c3
            try clear c3b0
            try clear p3
            try clear q3
            try clear hx3
            try clear c4
            try clear c4b0
            try clear p6
            try clear c8
            try clear c8b0
            try clear c9
            try clear c9b0
            try clear c10
            try clear c10b0
            try clear c11
            try clear c11b0
            try clear hx362_0
            try clear hx362_1
            try clear hx362_2
            try clear hx362_3
            try clear hx366_0
            try clear hx367_0
            try clear hx367_1
            try clear hx367_2
            try clear hx367_3
            try clear hx368_0
            try clear hx368_1
            try clear hx368_2
            try clear hx368_3
            try clear p2
            try clear p3
            try clear p362
            try clear p366
            try clear p367
            try clear p368
            try clear p6
            try clear q3
            try clear q362
            try clear q366
            try clear q367
            try clear q368
            obtain ⟨x7_3, x370003_3, u370003, rfl, HA, HK3, HO_1, HO_2, HO_4, HO_370003, BK369, HB⟩ := hrel
            cases gk with
            | zero => exact absurd HA.out (by simp [foolscapref09_All.l2])
            | succ k3 =>
             have H := HA.out
             clear HA
             simp only [foolscapref09_All.l2] at H
             by_cases c19 : 0 ≤ x3_1
             ·rw [if_pos c19] at H
              have c19b0 : decide (0 ≤ x3_1) = true := decide_eq_true c19
              clear c19
              by_cases c20 : x3_1 < (t359.length : Int)
              ·rw [if_pos c20] at H
               have c20b0 : decide (x3_1 < (t359.length : Int)) = true := decide_eq_true c20
               clear c20
               by_cases c21 : x7_3 < (((rd_T76 t359 x3_1).f3).size : Int)
               ·rw [if_pos c21] at H
                have c21b0 : decide (x7_3 < (((rd_T76 t359 x3_1).f3).size : Int)) = true := decide_eq_true c21
                clear c21
                by_cases c22 : 0 ≤ x7_3
                ·rw [if_pos c22] at H
                 have c22b0 : decide (0 ≤ x7_3) = true := decide_eq_true c22
                 clear c22
                 replace H := Option.bind_eq_some_iff.mp H
                 obtain ⟨t372, A240, H⟩ := H
                 replace H : (if x370003_3.length < 17592186044416 then (foolscapref09_All.l2 k3 x1_2 t359 x3_1 t363 x5_2 (wrap64 (x7_3 + 1)) (rdOf ByteArray.empty t363 x5_2) ((rd_T76 t359 x3_1).f1) ((rd_T76 t359 x3_1).f2) (x370003_3 ++ [t372])) else (none)) = some r := H
                 have A24 := Aside0.mk A240
                 clear A240
                 by_cases c25 : x370003_3.length < 17592186044416
                 ·rw [if_pos c25] at H
                  have LMc25 := Aside0.mk c25
                  clear c25
                  obtain ⟨y373, hy373⟩ : ∃ y_ : List Int, y_ = (x370003_3 ++ [t372]) := ⟨_, rfl⟩
                  replace H : (foolscapref09_All.l2 k3 x1_2 t359 x3_1 t363 x5_2 (wrap64 (x7_3 + 1)) (rdOf ByteArray.empty t363 x5_2) ((rd_T76 t359 x3_1).f1) ((rd_T76 t359 x3_1).f2) y373) = some r := by first | (rw [hy373]; with_reducible exact H) | (have H2_ := (Option.bind_some _ _).symm.trans H; rw [hy373]; with_reducible exact H2_) | (have H2_ := (Option.bind_some _ _).symm.trans H; with_reducible exact H2_) | with_reducible exact H | (rw [hy373]; exact H) | exact H
                  have Ny373 := Aside0.mk hy373
                  clear hy373
                  have H' := Aside0.mk H
                  clear H
                  have p370 : 0 ≤ (x3_1 : Int) := of_decide_eq_true (by first | (with_reducible assumption) | assumption)
                  have q370 : x3_1 < (t359.length : Int) := of_decide_eq_true (by first | (with_reducible assumption) | assumption)
                  obtain ⟨ad370, e370, hx370_0, hx370_1, hx370_2, hx370_3⟩ := at_T76 (Kd.R_reads' HO_2.out).2.2 x3_1 p370 q370
                  obtain rfl : ad362 = ad370 := (by injection e370)
                  replace p370 := eq_true p370
                  replace q370 := eq_true q370
                  try go_wp2
                  have n0_ := Aside0.mk (Kd.N_drew HO_1.out)
                  have n1_ := Aside0.mk (Kd.R_drew HO_2.out)
                  have n2_ := Aside0.mk (Kd.R_drew HO_4.out)
                  have n3_ := Aside0.mk (Kd.R_drew HO_370003.out)
                  have n4_ := Aside0.mk (blk_drew BK369.out)
                  have n5_ := Aside0.mk (below_drew1 HB.out)
                  clear HO_1
                  clear HO_2
                  clear HO_4
                  clear HO_370003
                  clear BK369
                  clear HB
                  have HO_1 := n0_
                  have HO_2 := n1_
                  have HO_4 := n2_
                  have HO_370003 := n3_
                  have BK369 := n4_
                  have HB := n5_
                  clear n0_ n1_ n2_ n3_ n4_ n5_
                  have p371 : 0 ≤ (x3_1 : Int) := of_decide_eq_true (by first | (with_reducible assumption) | assumption)
                  have q371 : x3_1 < (t359.length : Int) := of_decide_eq_true (by first | (with_reducible assumption) | assumption)
                  obtain ⟨ad371, e371, hx371_0, hx371_1, hx371_2, hx371_3⟩ := at_T76 (Kd.R_reads' HO_2.out).2.2 x3_1 p371 q371
                  obtain rfl : ad362 = ad371 := (by injection e371)
                  replace p371 := eq_true p371
                  replace q371 := eq_true q371
                  have p23 : 0 ≤ (x7_3 : Int) := of_decide_eq_true (by first | (with_reducible assumption) | assumption)
                  have q23 : x7_3 < (((rd_T76 t359 x3_1).f3).size : Int) := of_decide_eq_true (by first | (with_reducible assumption) | assumption)
                  have hx23 := bt_at ((rd_T76 t359 x3_1).f3) x7_3
                  replace p23 := eq_true p23
                  replace q23 := eq_true q23
                  refine start_ (n := 14) (S := fun w' => w'.cell? ⟨gb369, 0, none⟩ = some (.string (rdOf ByteArray.empty t363 x5_2)) ∧ w'.cell? ⟨gb369, 1, none⟩ = some (.int .i64 ((rd_T76 t359 x3_1).f1)) ∧ w'.cell? ⟨gb369, 2, none⟩ = some (.int .i64 ((rd_T76 t359 x3_1).f2)) ∧ w'.cell? ⟨gb369, 3, none⟩ = some (u370003) ∧ w'.cell? (ad362.add ((x3_1).toNat * 4)) = some (.string ((rd_T76 t359 x3_1).f0)) ∧ w'.cell? ⟨(ad362.add ((x3_1).toNat * 4)).block, (ad362.add ((x3_1).toNat * 4)).off + 1, none⟩ = some (.int .i64 ((rd_T76 t359 x3_1).f1)) ∧ w'.cell? ⟨(ad362.add ((x3_1).toNat * 4)).block, (ad362.add ((x3_1).toNat * 4)).off + 2, none⟩ = some (.int .i64 ((rd_T76 t359 x3_1).f2)) ∧ w'.cell? ⟨(ad362.add ((x3_1).toNat * 4)).block, (ad362.add ((x3_1).toNat * 4)).off + 3, none⟩ = some (.string ((rd_T76 t359 x3_1).f3))) (ds := [11, 13]) (Array.replicate 14 false) (by kernel_rfl) rfl rfl ⟨(blk_cell BK369.out 0).trans rfl, (blk_cell BK369.out 1).trans rfl, (blk_cell BK369.out 2).trans rfl, (blk_cell BK369.out 3).trans rfl, hx371_0, hx371_1, hx371_2, hx371_3⟩ (fun hHeld => ?_); refine with_tabW foolscapref09_All.tab14 foolscapref09_All.bits14 (fun HT_ HW_ => ?_)
                  generalize wr.drew = w26 at HO_1 HO_2 HO_4 HO_370003 BK369 HB hx371_0 hx371_1 hx371_2 hx371_3 hHeld ⊢
                  refine pure_ (i := 0) (N := some 54) (v := ?_) (a' := ?_) #[true, false, false, false, false, false, false, false, false, false, false, false, false, false] rfl rfl (any_of HT_.out (by kernel_rfl)) (fun _ _ _ h => h) (Or.inl ⟨by rfl, ?_⟩) ?_ ?_
                  rotate_left
                  ·intro w'
                   go_simp
                   with_reducible rfl
                  rotate_left
                  ·simp only [Act.put, List.setIfInBounds_toArray, List.set_cons_zero, List.set_cons_succ, i64_w, i32_w]
                   rfl
                  refine pure_ (i := 2) (N := some 56) (v := ?_) (a' := ?_) #[true, false, true, false, false, false, false, false, false, false, false, false, false, false] rfl rfl (any_of HT_.out (by kernel_rfl)) (fun _ _ _ h => h) (Or.inl ⟨by rfl, ?_⟩) ?_ ?_
                  rotate_left
                  ·intro w'
                   go_simp
                   with_reducible rfl
                  rotate_left
                  ·simp only [Act.put, List.setIfInBounds_toArray, List.set_cons_zero, List.set_cons_succ, i64_w, i32_w]
                   rfl
                  refine pure_ (i := 3) (N := some 57) (v := ?_) (a' := ?_) #[true, false, true, true, false, false, false, false, false, false, false, false, false, false] rfl rfl (any_of HT_.out (by kernel_rfl)) (fun _ _ _ h => h) (Or.inl ⟨by rfl, ?_⟩) ?_ ?_
                  rotate_left
                  ·intro w'
                   go_simp
                   with_reducible rfl
                  rotate_left
                  ·simp only [Act.put, List.setIfInBounds_toArray, List.set_cons_zero, List.set_cons_succ, i64_w, i32_w]
                   rfl
                  refine pure_ (i := 4) (N := some 58) (v := ?_) (a' := ?_) #[true, false, true, true, true, false, false, false, false, false, false, false, false, false] rfl rfl (any_of HT_.out (by kernel_rfl)) (fun _ _ _ h => h) (Or.inl ⟨by rfl, ?_⟩) ?_ ?_
                  rotate_left
                  ·intro w'
                   go_simp
                   with_reducible rfl
                  rotate_left
                  ·simp only [Act.put, List.setIfInBounds_toArray, List.set_cons_zero, List.set_cons_succ, i64_w, i32_w]
                   rfl
                  refine pure_ (i := 5) (N := some 59) (v := ?_) (a' := ?_) #[true, false, true, true, true, true, false, false, false, false, false, false, false, false] rfl rfl (any_of HT_.out (by kernel_rfl)) (fun _ _ _ h => h) (Or.inl ⟨by rfl, ?_⟩) ?_ ?_
                  rotate_left
                  ·intro w'
                   go_simp
                   with_reducible rfl
                  rotate_left
                  ·simp only [Act.put, List.setIfInBounds_toArray, List.set_cons_zero, List.set_cons_succ, i64_w, i32_w]
                   rfl
                  refine pure_ (i := 7) (N := some 61) (v := ?_) (a' := ?_) #[true, false, true, true, true, true, false, true, false, false, false, false, false, false] rfl rfl (any_of HT_.out (by kernel_rfl)) (fun _ _ _ h => h) (Or.inl ⟨by rfl, ?_⟩) ?_ ?_
                  rotate_left
                  ·intro w'
                   go_simp
                   with_reducible rfl
                  rotate_left
                  ·simp only [Act.put, List.setIfInBounds_toArray, List.set_cons_zero, List.set_cons_succ, i64_w, i32_w]
                   rfl
                  refine take_ (i := 1) (N := some 55) (v := ?_) (a' := ?_) #[true, true, true, true, true, true, false, true, false, false, false, false, false, false] rfl rfl (take_ofW HT_.out HW_.out (by kernel_rfl)) (fun _ _ _ h => h) (Or.inl ⟨by rfl, ?_⟩) hHeld ?_ ?_
                  rotate_left
                  ·rintro w' ⟨s0, s1, s2, s3, s4, s5, s6, s7⟩
                   go_simp
                   with_reducible rfl
                  rotate_left
                  ·simp only [Act.put, List.setIfInBounds_toArray, List.set_cons_zero, List.set_cons_succ, i64_w, i32_w]
                   rfl
                  refine take_ (i := 6) (N := some 60) (v := ?_) (a' := ?_) #[true, true, true, true, true, true, true, true, false, false, false, false, false, false] rfl rfl (take_ofW HT_.out HW_.out (by kernel_rfl)) (fun _ _ _ h => h) (Or.inl ⟨by rfl, ?_⟩) hHeld ?_ ?_
                  rotate_left
                  ·rintro w' ⟨s0, s1, s2, s3, s4, s5, s6, s7⟩
                   go_simp
                   with_reducible rfl
                  rotate_left
                  ·simp only [Act.put, List.setIfInBounds_toArray, List.set_cons_zero, List.set_cons_succ, i64_w, i32_w]
                   rfl
                  refine take_ (i := 8) (N := some 62) (v := ?_) (a' := ?_) #[true, true, true, true, true, true, true, true, true, false, false, false, false, false] rfl rfl (take_ofW HT_.out HW_.out (by kernel_rfl)) (fun _ _ _ h => h) (Or.inl ⟨by rfl, ?_⟩) hHeld ?_ ?_
                  rotate_left
                  ·rintro w' ⟨s0, s1, s2, s3, s4, s5, s6, s7⟩
                   go_simp
                   with_reducible rfl
                  rotate_left
                  ·simp only [Act.put, List.setIfInBounds_toArray, List.set_cons_zero, List.set_cons_succ, i64_w, i32_w]
                   rfl
                  refine one_ (i := 9) (N := some 63) #[true, true, true, true, true, true, true, true, true, true, false, false, false, false] rfl rfl (one_of HT_.out (by kernel_rfl)) (by decide) (fun K hK => ?_)
                  refine goes_ Tryz.func31 (by kernel_rfl) rfl #[.int .u8 (bt ((rd_T76 t359 x3_1).f3) x7_3)] (by rfl) rfl rfl (by (try simp only [List.map_toArray, List.map_cons, List.map_nil]); first | done | rfl | (simp only [List.length_drop, List.length_take]; rfl) | (simp only [ByteArray.size_append, Int.natCast_add]; done) | (simp only [ByteArray.size_append, Int.natCast_add]; rfl) | (simp only [Array.mk.injEq, List.cons.injEq, Value.int.injEq, true_and, and_true]; (try simp only [mx, mn, wrap64] at *); omega)) ?_
                  with_reducible refine (foolscapref09_want.calls (bt ((rd_T76 t359 x3_1).f3) x7_3) t372 _ A24.out).mono ?_
                  rintro e w' ⟨rfl, ⟨nd, rfl⟩⟩
                  refine ⟨_, rfl, ?_⟩
                  refine hK.out _ _ ⟨(blk_cell BK369.out 0).trans rfl, (blk_cell BK369.out 1).trans rfl, (blk_cell BK369.out 2).trans rfl, (blk_cell BK369.out 3).trans rfl, hHeld.2.2.2.2.1, hHeld.2.2.2.2.2.1, hHeld.2.2.2.2.2.2.1, hHeld.2.2.2.2.2.2.2⟩ (fun hHeld => ?_)
                  clear hK K
                  refine norm_ (a' := ?_) ?_ ?_
                  rotate_left
                  ·show Act.put _ (some 63) _ = _
                   simp only [Act.put, List.setIfInBounds_toArray, List.set_cons_zero, List.set_cons_succ, i64_w, i32_w]
                   rfl
                  refine one_ (i := 10) (N := some 64) #[true, true, true, true, true, true, true, true, true, true, true, false, false, false] rfl rfl (one_of HT_.out (by kernel_rfl)) (by decide) (fun K hK => ?_)
                  refine value_ (w1 := ?_) (v := ?_) (by rfl) rfl ?_ ?_
                  rotate_left 2
                  ·go_simp
                   constructor
                   ·rfl
                   ·rfl
                  refine hK.out _ _ ⟨(blk_cell (blk_alloc BK369.out _) 0).trans rfl, (blk_cell (blk_alloc BK369.out _) 1).trans rfl, (blk_cell (blk_alloc BK369.out _) 2).trans rfl, (blk_cell (blk_alloc BK369.out _) 3).trans rfl, (World.cell?_alloc_lt _ _ _ (World.block_lt_of_cell? _ _ (hHeld.2.2.2.2.1))).trans (hHeld.2.2.2.2.1), (World.cell?_alloc_lt _ _ _ (World.block_lt_of_cell? _ _ (hHeld.2.2.2.2.2.1))).trans (hHeld.2.2.2.2.2.1), (World.cell?_alloc_lt _ _ _ (World.block_lt_of_cell? _ _ (hHeld.2.2.2.2.2.2.1))).trans (hHeld.2.2.2.2.2.2.1), (World.cell?_alloc_lt _ _ _ (World.block_lt_of_cell? _ _ (hHeld.2.2.2.2.2.2.2))).trans (hHeld.2.2.2.2.2.2.2)⟩ (fun hHeld => ?_)
                  clear hK K
                  refine norm_ (a' := ?_) ?_ ?_
                  rotate_left
                  ·show Act.put _ (some 64) _ = _
                   simp only [Act.put, List.setIfInBounds_toArray, List.set_cons_zero, List.set_cons_succ, i64_w, i32_w]
                   rfl
                  refine last_ (i := 11) (N := some 65) #[true, true, true, true, true, true, true, true, true, true, true, true, false, false] rfl rfl (one_of HT_.out (by kernel_rfl)) (by decide) (fun K hK => ?_)
                  refine Kd.R_append_step (Kd.int .i64) (w0 := w) w.heap.size (by rfl) (.tmp 55) (.tmp 64) 22 62 (.int .i64 0) 8 rfl Tryz.underlying22 info62 rfl (by decide) (by omega) u370003 x370003_3 t372 [.int .i64 t372] (fun k_ => (w.heap.size ≤ k_)) (fun _ => False) rfl rfl ?aP (fun _ hk => hk.elim) ?aF ?aO ?aB ?aS ?aL ?_
                  (case aP => exact rfl)
                  (case aB => exact (by repeat (first | (with_reducible first | exact HB.out | apply below_alloc | apply pw_below_drewN | apply below_drew1 | refine below_set ?_ GE369.out) | exact HB.out)))
                  (case aF => exact (fun k_ hk => (Nat.le_trans (below_size (by repeat (first | (with_reducible first | exact HB.out | apply below_alloc | apply pw_below_drewN | apply below_drew1 | refine below_set ?_ GE369.out) | exact HB.out))) hk)))
                  (case aO => exact (by (with_reducible repeat (first | apply Kd.R_alloc | apply Kd.R_drewN | apply Kd.R_drew)); exact HO_370003.out))
                  (case aS => exact (below_size (by repeat (first | (with_reducible first | exact HB.out | apply below_alloc | apply pw_below_drewN | apply below_drew1 | refine below_set ?_ GE369.out) | exact HB.out))))
                  (case aL => have := LMc25.out; omega)
                  intro v374 w27 ho hb hg hat
                  rw [← Ny373.out] at ho
                  have n0_ := Aside0.mk (Kd.N_afterv (ok := (fun k_ => (w.heap.size ≤ k_) ∧ some k_ ≠ (.slice (some ad362) t359.length co6 : Value).ownBlock ∧ some k_ ≠ (.slice (some ad366) t363.length co12 : Value).ownBlock ∧ k_ ≠ gb369)) (by (with_reducible repeat (first | apply Kd.N_alloc | apply Kd.N_drewN | apply Kd.N_drew)); exact Kd.N_mono HO_1.out (fun _ hk => ⟨⟨hk.1, ⟨hk.2.1, ⟨hk.2.2.1, hk.2.2.2.2⟩⟩⟩, hk.2.2.2.1⟩)) hg hat)
                  have n1_ := Aside0.mk (Kd.R_over' (by (with_reducible repeat (first | apply Kd.R_alloc | apply Kd.R_drewN | apply Kd.R_drew)); exact HO_2.out) (Kd.R_typed (by (with_reducible repeat (first | apply Kd.R_alloc | apply Kd.R_drewN | apply Kd.R_drew)); exact HO_370003.out)) (by decide) hg)
                  have n2_ := Aside0.mk (Kd.R_over' (by (with_reducible repeat (first | apply Kd.R_alloc | apply Kd.R_drewN | apply Kd.R_drew)); exact HO_4.out) (Kd.R_typed (by (with_reducible repeat (first | apply Kd.R_alloc | apply Kd.R_drewN | apply Kd.R_drew)); exact HO_370003.out)) (by decide) hg)
                  have n3_ := Aside0.mk (blk_grown (g := gb369) (o := .cells #[.string (rdOf ByteArray.empty t363 x5_2), .int .i64 ((rd_T76 t359 x3_1).f1), .int .i64 ((rd_T76 t359 x3_1).f2), u370003] 24 (0, 0)) (by (with_reducible repeat (first | refine blk_drewN ?_ _ | refine blk_drew ?_ | refine blk_alloc ?_ _)); exact BK369.out) hg (Kd.R_ne HO_370003.out BK369.out (by decide)))
                  have n4_ := Aside0.mk (hb)
                  have n5_ := Aside0.mk (ho)
                  clear HO_1
                  clear HO_2
                  clear HO_4
                  clear BK369
                  clear HB
                  clear HO_370003
                  have HO_1 := n0_
                  have HO_2 := n1_
                  have HO_4 := n2_
                  have BK369 := n3_
                  have HB := n4_
                  have HO375 := n5_
                  clear n0_ n1_ n2_ n3_ n4_ n5_
                  clear ho hb hg hat
                  obtain ⟨Ao28, co28, eo28⟩ := Kd.R_slice HO375.out
                  (first | subst eo28 | (injection eo28 with f1_ f2_ f3_; have f4_ := f1_.symm; have f5_ := f3_.symm; clear f1_ f2_ f3_; subst f4_; subst f5_))
                  refine hK.out _ _ ?_
                  clear hK K
                  refine norm_ (a' := ?_) ?_ ?_
                  rotate_left
                  ·show Act.put _ (some 65) _ = _
                   simp only [Act.put, List.setIfInBounds_toArray, List.set_cons_zero, List.set_cons_succ, i64_w, i32_w]
                   rfl
                  refine pure_ (i := 12) (N := some 66) (v := ?_) (a' := ?_) #[true, true, true, true, true, true, true, true, true, true, true, true, true, false] rfl rfl (any_of HT_.out (by kernel_rfl)) (fun _ _ _ h => h) (Or.inl ⟨by rfl, ?_⟩) ?_ ?_
                  rotate_left
                  ·intro w'
                   go_simp
                   with_reducible rfl
                  rotate_left
                  ·simp only [Act.put, List.setIfInBounds_toArray, List.set_cons_zero, List.set_cons_succ, i64_w, i32_w]
                   rfl
                  refine last_ (i := 13) (N := none) #[true, true, true, true, true, true, true, true, true, true, true, true, true, true] rfl rfl (one_of HT_.out (by kernel_rfl)) (by decide) (fun K hK => ?_)
                  have hs29 : w27.cell? ⟨gb369, 3, none⟩ = some (u370003) := (blk_cell BK369.out 3).trans rfl
                  have hfs29 := blk_frozen BK369.out 3
                  refine skip_ (w1 := ?_) (by rfl) rfl ?_ ?_
                  rotate_left
                  ·go_simp
                   rfl
                  refine hK.out _ _ ?_
                  clear hK K
                  refine done_ (done_of HT_.out (by kernel_rfl)) ?_
                  try go_wp2
                  go_roundg k3
                  case measure => have := HK1.out; have := HK2.out; have := HK3.out; omega
                  case rel => exact ⟨(wrap64 (x7_3 + 1)), (y373), (.slice Ao28 y373.length co28), (rflS), H', ⟨by have := HK1.out; have := HK2.out; have := HK3.out; omega⟩, ⟨by (with_reducible repeat (first | apply Kd.N_alloc | apply Kd.N_drewN | apply Kd.N_drew)); exact Kd.N_mono (Kd.N_far (p := ⟨gb369, 3, none⟩) (Kd.N_mono HO_1.out (fun k_ hk => (⟨hk, hk.1.2.2.2⟩ : _ ∧ k_ ≠ gb369))) (fun _ hk => hk.2) (.slice Ao28 y373.length co28)) (fun _ hk => ⟨hk.1.1.1, ⟨hk.1.1.2.1, ⟨hk.1.1.2.2.1, ⟨hk.1.2, hk.1.1.2.2.2⟩⟩⟩⟩)⟩, ⟨by (with_reducible repeat (first | apply Kd.R_alloc | apply Kd.R_drewN | apply Kd.R_drew)); exact Kd.R_mono (Kd.R_far (p := ⟨gb369, 3, none⟩) (Kd.R_types HO_2.out BK369.out (by decide)) (fun _ hk => hk.2) (.slice Ao28 y373.length co28)) (fun _ hk => hk.1)⟩, ⟨by (with_reducible repeat (first | apply Kd.R_alloc | apply Kd.R_drewN | apply Kd.R_drew)); exact Kd.R_mono (Kd.R_far (p := ⟨gb369, 3, none⟩) (Kd.R_types HO_4.out BK369.out (by decide)) (fun _ hk => hk.2) (.slice Ao28 y373.length co28)) (fun _ hk => hk.1)⟩, ⟨by (with_reducible repeat (first | apply Kd.R_alloc | apply Kd.R_drewN | apply Kd.R_drew)); exact Kd.R_mono (Kd.R_far (p := ⟨gb369, 3, none⟩) (Kd.R_types HO375.out BK369.out (by decide)) (fun _ hk => hk.2) (.slice Ao28 y373.length co28)) (fun _ hk => hk.1)⟩, ⟨by (with_reducible repeat (first | refine blk_drewN ?_ _ | refine blk_drew ?_ | refine blk_alloc ?_ _)); refine blk_put (cs := #[.string (rdOf ByteArray.empty t363 x5_2), .int .i64 ((rd_T76 t359 x3_1).f1), .int .i64 ((rd_T76 t359 x3_1).f2), u370003]) ?_ 3 _ rfl; (with_reducible repeat (first | refine blk_drewN ?_ _ | refine blk_drew ?_ | refine blk_alloc ?_ _)); exact BK369.out⟩, ⟨by repeat (first | (with_reducible first | exact HB.out | apply below_alloc | apply pw_below_drewN | apply below_drew1 | refine below_set ?_ GE369.out) | exact HB.out)⟩⟩
                 ·rw [if_neg c25] at H
                  exact absurd H (by simp)
                ·rw [if_neg c22] at H
                 exact absurd H (by simp)
               ·rw [if_neg c21] at H
                have c21b0 : decide (x7_3 < (((rd_T76 t359 x3_1).f3).size : Int)) = false := decide_eq_false c21
                clear c21
                have H' := Aside0.mk H
                clear H
                have p370 : 0 ≤ (x3_1 : Int) := of_decide_eq_true (by first | (with_reducible assumption) | assumption)
                have q370 : x3_1 < (t359.length : Int) := of_decide_eq_true (by first | (with_reducible assumption) | assumption)
                obtain ⟨ad370, e370, hx370_0, hx370_1, hx370_2, hx370_3⟩ := at_T76 (Kd.R_reads' HO_2.out).2.2 x3_1 p370 q370
                obtain rfl : ad362 = ad370 := (by injection e370)
                replace p370 := eq_true p370
                replace q370 := eq_true q370
                go_wp2
                go_loopg [8] k3 (fun kq v8 w' => ∃ (x8_4 : Int), v8 = .int .i64 x8_4 ∧ Aside0 (foolscapref09_All.l3 kq x1_2 t359 x3_1 t363 x5_2 x8_4 (rdOf ByteArray.empty t363 x5_2) ((rd_T76 t359 x3_1).f1) ((rd_T76 t359 x3_1).f2) x370003_3 = some r) ∧ Aside0 (kq ≤ k3) ∧ Aside0 (Kd.N k24 24 w' w.heap.size (fun k_ => (w.heap.size ≤ k_) ∧ some k_ ≠ ((.slice (some ad362) t359.length co6) : Value).ownBlock ∧ some k_ ≠ ((.slice (some ad366) t363.length co12) : Value).ownBlock ∧ some k_ ≠ (u370003 : Value).ownBlock ∧ k_ ≠ gb369) u1 x1_2) ∧ Aside0 (Kd.R k76 76 w' w.heap.size (fun k_ => (w.heap.size ≤ k_)) (.slice (some ad362) t359.length co6) t359) ∧ Aside0 (Kd.R Kd.string 9 w' w.heap.size (fun k_ => (w.heap.size ≤ k_)) (.slice (some ad366) t363.length co12) t363) ∧ Aside0 (Kd.R (Kd.int .i64) 62 w' w.heap.size (fun k_ => (w.heap.size ≤ k_)) u370003 x370003_3) ∧ Aside0 (w'.heap[gb369]? = some (.cells #[.string (rdOf ByteArray.empty t363 x5_2), .int .i64 ((rd_T76 t359 x3_1).f1), .int .i64 ((rd_T76 t359 x3_1).f2), u370003] 24 (0, 0))) ∧ Aside0 (Below w.heap.size w w'))
                case atStart => exact ⟨(0), (rflS), H', ⟨Nat.le_refl _⟩, ⟨by (with_reducible repeat (first | apply Kd.N_alloc | apply Kd.N_drewN | apply Kd.N_drew)); exact HO_1.out⟩, ⟨by (with_reducible repeat (first | apply Kd.R_alloc | apply Kd.R_drewN | apply Kd.R_drew)); exact HO_2.out⟩, ⟨by (with_reducible repeat (first | apply Kd.R_alloc | apply Kd.R_drewN | apply Kd.R_drew)); exact HO_4.out⟩, ⟨by (with_reducible repeat (first | apply Kd.R_alloc | apply Kd.R_drewN | apply Kd.R_drew)); exact HO_370003.out⟩, ⟨by (with_reducible repeat (first | refine blk_drewN ?_ _ | refine blk_drew ?_ | refine blk_alloc ?_ _)); exact BK369.out⟩, ⟨by repeat (first | (with_reducible first | exact HB.out | apply below_alloc | apply pw_below_drewN | apply below_drew1 | refine below_set ?_ GE369.out) | exact HB.out)⟩⟩
                case round =>
                 clear H'
                 try clear c1
                 try clear c2
                 try clear p2
                 try clear q2
                 try clear hx2
                 try clear c3
                 try clear c3b0
                 try clear p3
                 try clear q3
                 try clear hx3
                 try clear c4
                 try clear c4b0
                 try clear p6
                 try clear c8
                 try clear c8b0
                 try clear c9
                 try clear c9b0
                 try clear c10
                 try clear c10b0
                 try clear c11
                 try clear c11b0
                 try clear c19
                 try clear c19b0
                 try clear c20
                 try clear c20b0
                 try clear c21
                 try clear c21b0
                 try clear c22
                 try clear c22b0
                 try clear p23
                 try clear q23
                 try clear hx23
                 try clear c25
                 try clear c29
                 try clear hx362_0
                 try clear hx362_1
                 try clear hx362_2
                 try clear hx362_3
                 try clear hx366_0
                 try clear hx367_0
                 try clear hx367_1
                 try clear hx367_2
                 try clear hx367_3
                 try clear hx368_0
                 try clear hx368_1
                 try clear hx368_2
                 try clear hx368_3
                 try clear hx370_0
                 try clear hx370_1
                 try clear hx370_2
                 try clear hx370_3
                 try clear hx371_0
                 try clear hx371_1
                 try clear hx371_2
                 try clear hx371_3
                 try clear p2
                 try clear p23
                 try clear p3
                 try clear p362
                 try clear p366
                 try clear p367
                 try clear p368
                 try clear p370
                 try clear p371
                 try clear p6
                 try clear q23
                 try clear q3
                 try clear q362
                 try clear q366
                 try clear q367
                 try clear q368
                 try clear q370
                 try clear q371
                 obtain ⟨x8_4, rfl, HA, HK4, HO_1, HO_2, HO_4, HO_370003, BK369, HB⟩ := hrel
                 cases gk with
                 | zero => exact absurd HA.out (by simp [foolscapref09_All.l3])
                 | succ k4 =>
                  have H := HA.out
                  clear HA
                  simp only [foolscapref09_All.l3] at H
                  by_cases c30 : x8_4 < (x1_2.length : Int)
                  ·rw [if_pos c30] at H
                   have c30b0 : decide (x8_4 < (x1_2.length : Int)) = true := decide_eq_true c30
                   clear c30
                   by_cases c31 : 0 ≤ x8_4
                   ·rw [if_pos c31] at H
                    have c31b0 : decide (0 ≤ x8_4) = true := decide_eq_true c31
                    clear c31
                    replace H := Option.bind_eq_some_iff.mp H
                    obtain ⟨t377, A320, H⟩ := H
                    replace H : (if t377 < 0 then (foolscapref09_All.l3 k4 x1_2 t359 x3_1 t363 x5_2 (wrap64 (x8_4 + 1)) (rdOf ByteArray.empty t363 x5_2) ((rd_T76 t359 x3_1).f1) ((rd_T76 t359 x3_1).f2) x370003_3) else ((some (([] : List (S24)) : List (S24))).bind fun y378 => (if x8_4 ≤ (x1_2.length : Int) then ((some (x1_2.take (x8_4 : Int).toNat : List (S24))).bind fun y381 => (if y378.length + y381.length < 2513169434916 then ((some (y378 ++ y381 : List (S24))).bind fun y386 => (if y386.length < 2513169434916 then ((some (y386 ++ [(⟨(rdOf ByteArray.empty t363 x5_2), ((rd_T76 t359 x3_1).f1), ((rd_T76 t359 x3_1).f2), x370003_3⟩ : S24)] : List (S24))).bind fun y389 => ((some (x1_2.drop (x8_4 : Int).toNat : List (S24))).bind fun y392 => (if y389.length + y392.length < 2513169434916 then (foolscapref09_All.l1 k4 (y389 ++ y392) t359 x3_1 t363 (wrap64 (x5_2 + 1))) else (none)))) else (none))) else (none))) else (none)))) = some r := H
                    have A32 := Aside0.mk A320
                    clear A320
                    by_cases c33 : t377 < 0
                    ·rw [if_pos c33] at H
                     have c33b0 : decide (t377 < 0) = true := decide_eq_true c33
                     clear c33
                     have H' := Aside0.mk H
                     clear H
                     try go_wp2
                     have n0_ := Aside0.mk (Kd.N_drew HO_1.out)
                     have n1_ := Aside0.mk (Kd.R_drew HO_2.out)
                     have n2_ := Aside0.mk (Kd.R_drew HO_4.out)
                     have n3_ := Aside0.mk (Kd.R_drew HO_370003.out)
                     have n4_ := Aside0.mk (blk_drew BK369.out)
                     have n5_ := Aside0.mk (below_drew1 HB.out)
                     clear HO_1
                     clear HO_2
                     clear HO_4
                     clear HO_370003
                     clear BK369
                     clear HB
                     have HO_1 := n0_
                     have HO_2 := n1_
                     have HO_4 := n2_
                     have HO_370003 := n3_
                     have BK369 := n4_
                     have HB := n5_
                     clear n0_ n1_ n2_ n3_ n4_ n5_
                     obtain ⟨Ao35, co35, eo35⟩ := Kd.N_slice HO_1.out
                     (first | subst eo35 | (injection eo35 with f1_ f2_ f3_; have f4_ := f1_.symm; have f5_ := f3_.symm; clear f1_ f2_ f3_; subst f4_; subst f5_))
                     have p376 : 0 ≤ (x8_4 : Int) := of_decide_eq_true (by first | (with_reducible assumption) | assumption)
                     have q376 : x8_4 < (x1_2.length : Int) := of_decide_eq_true (by first | (with_reducible assumption) | assumption)
                     obtain ⟨ad376, A376_3, c376_3, e376, hx376_0, hx376_1, hx376_2, hx376_3, hl376_3, hi376_3⟩ := at_T24 (Kd.N_reads' HO_1.out).2.2 x8_4 p376 q376
                     cases e376
                     obtain ⟨ce376, hce376, hMe376, hcc376⟩ := Kd.N_get HO_1.out z24 x8_4 p376 (by first | exact q376 | exact of_decide_eq_true (by first | (with_reducible assumption) | assumption) | (have e_ := (Kd.N_reads' HO_1.out).1; omega))
                     obtain ⟨ua376_3, uc376_3, rfl, ul376_3, ge376_3⟩ := k24_openF hMe376
                     have hv376_3 := hcc376 3 _ rfl
                     rw [add_field _ _ 3 (by omega)] at hv376_3
                     replace hv376_3 := Option.some.inj (hv376_3.symm.trans hx376_3)
                     injection hv376_3 with hva_ hvn_ hvc_
                     rw [hva_] at ge376_3
                     rw [hvc_] at ul376_3
                     have HL376_3 := Aside0.mk (show Kd.V (Kd.int .i64) 62 _ w.heap.size _ _ ((rd_T24 x1_2 x8_4).f3) from Kd.V_mk ul376_3 ge376_3)
                     clear hva_ hvn_ hvc_ ge376_3 ul376_3
                     clear hcc376 hce376
                     have HR376_3 := Aside0.mk hi376_3
                     have HC376_3 := Aside0.mk hl376_3
                     clear hi376_3 hl376_3
                     replace p376 := eq_true p376
                     replace q376 := eq_true q376
                     refine start_ (n := 15) (S := fun w' => w'.cell? ⟨gb369, 0, none⟩ = some (.string (rdOf ByteArray.empty t363 x5_2)) ∧ w'.cell? ⟨gb369, 1, none⟩ = some (.int .i64 ((rd_T76 t359 x3_1).f1)) ∧ w'.cell? ⟨gb369, 2, none⟩ = some (.int .i64 ((rd_T76 t359 x3_1).f2)) ∧ w'.cell? ⟨gb369, 3, none⟩ = some (u370003) ∧ w'.cell? (ad376.add ((x8_4).toNat * 4)) = some (.string ((rd_T24 x1_2 x8_4).f0)) ∧ w'.cell? ⟨(ad376.add ((x8_4).toNat * 4)).block, (ad376.add ((x8_4).toNat * 4)).off + 1, none⟩ = some (.int .i64 ((rd_T24 x1_2 x8_4).f1)) ∧ w'.cell? ⟨(ad376.add ((x8_4).toNat * 4)).block, (ad376.add ((x8_4).toNat * 4)).off + 2, none⟩ = some (.int .i64 ((rd_T24 x1_2 x8_4).f2)) ∧ w'.cell? ⟨(ad376.add ((x8_4).toNat * 4)).block, (ad376.add ((x8_4).toNat * 4)).off + 3, none⟩ = some (.slice A376_3 ((rd_T24 x1_2 x8_4).f3).length c376_3)) (ds := []) (Array.replicate 15 false) (by kernel_rfl) rfl rfl ⟨(blk_cell BK369.out 0).trans rfl, (blk_cell BK369.out 1).trans rfl, (blk_cell BK369.out 2).trans rfl, (blk_cell BK369.out 3).trans rfl, hx376_0, hx376_1, hx376_2, hx376_3⟩ (fun hHeld => ?_); refine with_tabW foolscapref09_All.tab16 foolscapref09_All.bits16 (fun HT_ HW_ => ?_)
                     generalize wr.drew = w34 at HO_1 HO_2 HO_4 HO_370003 BK369 HB HL376_3 HR376_3 hx376_0 hx376_1 hx376_2 hx376_3 hHeld ⊢
                     refine pure_ (i := 0) (N := some 67) (v := ?_) (a' := ?_) #[true, false, false, false, false, false, false, false, false, false, false, false, false, false, false] rfl rfl (any_of HT_.out (by kernel_rfl)) (fun _ _ _ h => h) (Or.inl ⟨by rfl, ?_⟩) ?_ ?_
                     rotate_left
                     ·intro w'
                      go_simp
                      with_reducible rfl
                     rotate_left
                     ·simp only [Act.put, List.setIfInBounds_toArray, List.set_cons_zero, List.set_cons_succ, i64_w, i32_w]
                      rfl
                     refine pure_ (i := 1) (N := some 68) (v := ?_) (a' := ?_) #[true, true, false, false, false, false, false, false, false, false, false, false, false, false, false] rfl rfl (any_of HT_.out (by kernel_rfl)) (fun _ _ _ h => h) (Or.inl ⟨by rfl, ?_⟩) ?_ ?_
                     rotate_left
                     ·intro w'
                      go_simp
                      with_reducible rfl
                     rotate_left
                     ·simp only [Act.put, List.setIfInBounds_toArray, List.set_cons_zero, List.set_cons_succ, i64_w, i32_w]
                      rfl
                     refine pure_ (i := 2) (N := some 69) (v := ?_) (a' := ?_) #[true, true, true, false, false, false, false, false, false, false, false, false, false, false, false] rfl rfl (any_of HT_.out (by kernel_rfl)) (fun _ _ _ h => h) (Or.inl ⟨by rfl, ?_⟩) ?_ ?_
                     rotate_left
                     ·intro w'
                      go_simp
                      with_reducible rfl
                     rotate_left
                     ·simp only [Act.put, List.setIfInBounds_toArray, List.set_cons_zero, List.set_cons_succ, i64_w, i32_w]
                      rfl
                     refine pure_ (i := 3) (N := some 70) (v := ?_) (a' := ?_) #[true, true, true, true, false, false, false, false, false, false, false, false, false, false, false] rfl rfl (any_of HT_.out (by kernel_rfl)) (fun _ _ _ h => h) (Or.inl ⟨by rfl, ?_⟩) ?_ ?_
                     rotate_left
                     ·intro w'
                      go_simp
                      with_reducible rfl
                     rotate_left
                     ·simp only [Act.put, List.setIfInBounds_toArray, List.set_cons_zero, List.set_cons_succ, i64_w, i32_w]
                      rfl
                     refine pure_ (i := 4) (N := some 71) (v := ?_) (a' := ?_) #[true, true, true, true, true, false, false, false, false, false, false, false, false, false, false] rfl rfl (any_of HT_.out (by kernel_rfl)) (fun _ _ _ h => h) (Or.inl ⟨by rfl, ?_⟩) ?_ ?_
                     rotate_left
                     ·intro w'
                      go_simp
                      with_reducible rfl
                     rotate_left
                     ·simp only [Act.put, List.setIfInBounds_toArray, List.set_cons_zero, List.set_cons_succ, i64_w, i32_w]
                      rfl
                     refine pure_ (i := 5) (N := some 72) (v := ?_) (a' := ?_) #[true, true, true, true, true, true, false, false, false, false, false, false, false, false, false] rfl rfl (any_of HT_.out (by kernel_rfl)) (fun _ _ _ h => h) (Or.inl ⟨by rfl, ?_⟩) ?_ ?_
                     rotate_left
                     ·intro w'
                      go_simp
                      with_reducible rfl
                     rotate_left
                     ·simp only [Act.put, List.setIfInBounds_toArray, List.set_cons_zero, List.set_cons_succ, i64_w, i32_w]
                      rfl
                     refine pure_ (i := 6) (N := some 73) (v := ?_) (a' := ?_) #[true, true, true, true, true, true, true, false, false, false, false, false, false, false, false] rfl rfl (any_of HT_.out (by kernel_rfl)) (fun _ _ _ h => h) (Or.inl ⟨by rfl, ?_⟩) ?_ ?_
                     rotate_left
                     ·intro w'
                      go_simp
                      with_reducible rfl
                     rotate_left
                     ·simp only [Act.put, List.setIfInBounds_toArray, List.set_cons_zero, List.set_cons_succ, i64_w, i32_w]
                      rfl
                     refine pure_ (i := 7) (N := some 74) (v := ?_) (a' := ?_) #[true, true, true, true, true, true, true, true, false, false, false, false, false, false, false] rfl rfl (any_of HT_.out (by kernel_rfl)) (fun _ _ _ h => h) (Or.inl ⟨by rfl, ?_⟩) ?_ ?_
                     rotate_left
                     ·intro w'
                      go_simp
                      with_reducible rfl
                     rotate_left
                     ·simp only [Act.put, List.setIfInBounds_toArray, List.set_cons_zero, List.set_cons_succ, i64_w, i32_w]
                      rfl
                     refine pure_ (i := 8) (N := some 75) (v := ?_) (a' := ?_) #[true, true, true, true, true, true, true, true, true, false, false, false, false, false, false] rfl rfl (any_of HT_.out (by kernel_rfl)) (fun _ _ _ h => h) (Or.inl ⟨by rfl, ?_⟩) ?_ ?_
                     rotate_left
                     ·intro w'
                      go_simp
                      with_reducible rfl
                     rotate_left
                     ·simp only [Act.put, List.setIfInBounds_toArray, List.set_cons_zero, List.set_cons_succ, i64_w, i32_w]
                      rfl
                     refine pure_ (i := 10) (N := some 77) (v := ?_) (a' := ?_) #[true, true, true, true, true, true, true, true, true, false, true, false, false, false, false] rfl rfl (any_of HT_.out (by kernel_rfl)) (fun _ _ _ h => h) (Or.inl ⟨by rfl, ?_⟩) ?_ ?_
                     rotate_left
                     ·intro w'
                      go_simp
                      with_reducible rfl
                     rotate_left
                     ·simp only [Act.put, List.setIfInBounds_toArray, List.set_cons_zero, List.set_cons_succ, i64_w, i32_w]
                      rfl
                     refine take_ (i := 9) (N := some 76) (v := ?_) (a' := ?_) #[true, true, true, true, true, true, true, true, true, true, true, false, false, false, false] rfl rfl (take_ofW HT_.out HW_.out (by kernel_rfl)) (fun _ _ _ h => h) (Or.inl ⟨by rfl, ?_⟩) hHeld ?_ ?_
                     rotate_left
                     ·rintro w' ⟨s0, s1, s2, s3, s4, s5, s6, s7⟩
                      go_simp
                      with_reducible rfl
                     rotate_left
                     ·simp only [Act.put, List.setIfInBounds_toArray, List.set_cons_zero, List.set_cons_succ, i64_w, i32_w]
                      rfl
                     refine take_ (i := 11) (N := some 78) (v := ?_) (a' := ?_) #[true, true, true, true, true, true, true, true, true, true, true, true, false, false, false] rfl rfl (take_ofW HT_.out HW_.out (by kernel_rfl)) (fun _ _ _ h => h) (Or.inl ⟨by rfl, ?_⟩) hHeld ?_ ?_
                     rotate_left
                     ·rintro w' ⟨s0, s1, s2, s3, s4, s5, s6, s7⟩
                      go_simp
                      with_reducible rfl
                     rotate_left
                     ·simp only [Act.put, List.setIfInBounds_toArray, List.set_cons_zero, List.set_cons_succ, i64_w, i32_w]
                      rfl
                     refine one_ (i := 12) (N := some 79) #[true, true, true, true, true, true, true, true, true, true, true, true, true, false, false] rfl rfl (one_of HT_.out (by kernel_rfl)) (by decide) (fun K hK => ?_)
                     refine goes_ Tryz.func47 (by kernel_rfl) rfl #[.string ((rd_T24 x1_2 x8_4).f0), .string (rdOf ByteArray.empty t363 x5_2)] (by rfl) rfl rfl (by (try simp only [List.map_toArray, List.map_cons, List.map_nil]); first | done | rfl | (simp only [List.length_drop, List.length_take]; rfl) | (simp only [ByteArray.size_append, Int.natCast_add]; done) | (simp only [ByteArray.size_append, Int.natCast_add]; rfl) | (simp only [Array.mk.injEq, List.cons.injEq, Value.int.injEq, true_and, and_true]; (try simp only [mx, mn, wrap64] at *); omega)) ?_
                     with_reducible refine (foolscapref04_Bytes.calls k4 ((rd_T24 x1_2 x8_4).f0) (rdOf ByteArray.empty t363 x5_2) t377 _ A32.out).mono ?_
                     rintro e w' ⟨rfl, ⟨nd, rfl⟩⟩
                     refine ⟨_, rfl, ?_⟩
                     refine hK.out _ _ ⟨(blk_cell BK369.out 0).trans rfl, (blk_cell BK369.out 1).trans rfl, (blk_cell BK369.out 2).trans rfl, (blk_cell BK369.out 3).trans rfl, hHeld.2.2.2.2.1, hHeld.2.2.2.2.2.1, hHeld.2.2.2.2.2.2.1, hHeld.2.2.2.2.2.2.2⟩ (fun hHeld => ?_)
                     clear hK K
                     refine norm_ (a' := ?_) ?_ ?_
                     rotate_left
                     ·show Act.put _ (some 79) _ = _
                      simp only [Act.put, List.setIfInBounds_toArray, List.set_cons_zero, List.set_cons_succ, i64_w, i32_w]
                      rfl
                     refine pure_ (i := 13) (N := some 80) (v := ?_) (a' := ?_) #[true, true, true, true, true, true, true, true, true, true, true, true, true, true, false] rfl rfl (any_of HT_.out (by kernel_rfl)) (fun _ _ _ h => h) (Or.inl ⟨by rfl, ?_⟩) ?_ ?_
                     rotate_left
                     ·intro w'
                      go_simp
                      with_reducible rfl
                     rotate_left
                     ·simp only [Act.put, List.setIfInBounds_toArray, List.set_cons_zero, List.set_cons_succ, i64_w, i32_w]
                      rfl
                     refine pure_ (i := 14) (N := some 81) (v := ?_) (a' := ?_) #[true, true, true, true, true, true, true, true, true, true, true, true, true, true, true] rfl rfl (any_of HT_.out (by kernel_rfl)) (fun _ _ _ h => h) (Or.inl ⟨by rfl, ?_⟩) ?_ ?_
                     rotate_left
                     ·intro w'
                      go_simp
                      with_reducible rfl
                     rotate_left
                     ·simp only [Act.put, List.setIfInBounds_toArray, List.set_cons_zero, List.set_cons_succ, i64_w, i32_w]
                      rfl
                     refine done_ (done_of HT_.out (by kernel_rfl)) ?_
                     try go_wp2
                     go_roundg k4
                     case measure => have := HK1.out; have := HK2.out; have := HK3.out; have := HK4.out; omega
                     case rel => exact ⟨(wrap64 (x8_4 + 1)), (rflS), H', ⟨by have := HK1.out; have := HK2.out; have := HK3.out; have := HK4.out; omega⟩, ⟨by (with_reducible repeat (first | apply Kd.N_alloc | apply Kd.N_drewN | apply Kd.N_drew)); exact HO_1.out⟩, ⟨by (with_reducible repeat (first | apply Kd.R_alloc | apply Kd.R_drewN | apply Kd.R_drew)); exact HO_2.out⟩, ⟨by (with_reducible repeat (first | apply Kd.R_alloc | apply Kd.R_drewN | apply Kd.R_drew)); exact HO_4.out⟩, ⟨by (with_reducible repeat (first | apply Kd.R_alloc | apply Kd.R_drewN | apply Kd.R_drew)); exact HO_370003.out⟩, ⟨by (with_reducible repeat (first | refine blk_drewN ?_ _ | refine blk_drew ?_ | refine blk_alloc ?_ _)); exact BK369.out⟩, ⟨by repeat (first | (with_reducible first | exact HB.out | apply below_alloc | apply pw_below_drewN | apply below_drew1 | refine below_set ?_ GE369.out) | exact HB.out)⟩⟩
                    ·rw [if_neg c33] at H
                     have c33b0 : decide (t377 < 0) = false := decide_eq_false c33
                     clear c33
                     obtain ⟨y378, hy378⟩ : ∃ y_ : List (S24), y_ = (([] : List (S24))) := ⟨_, rfl⟩
                     replace H : (if x8_4 ≤ (x1_2.length : Int) then ((some (x1_2.take (x8_4 : Int).toNat : List (S24))).bind fun y381 => (if y378.length + y381.length < 2513169434916 then ((some (y378 ++ y381 : List (S24))).bind fun y386 => (if y386.length < 2513169434916 then ((some (y386 ++ [(⟨(rdOf ByteArray.empty t363 x5_2), ((rd_T76 t359 x3_1).f1), ((rd_T76 t359 x3_1).f2), x370003_3⟩ : S24)] : List (S24))).bind fun y389 => ((some (x1_2.drop (x8_4 : Int).toNat : List (S24))).bind fun y392 => (if y389.length + y392.length < 2513169434916 then (foolscapref09_All.l1 k4 (y389 ++ y392) t359 x3_1 t363 (wrap64 (x5_2 + 1))) else (none)))) else (none))) else (none))) else (none)) = some r := by first | (rw [hy378]; with_reducible exact H) | (have H2_ := (Option.bind_some _ _).symm.trans H; rw [hy378]; with_reducible exact H2_) | (have H2_ := (Option.bind_some _ _).symm.trans H; with_reducible exact H2_) | with_reducible exact H | (rw [hy378]; exact H) | exact H
                     have Ny378 := Aside0.mk hy378
                     clear hy378
                     have c36b0 := eq_true (of_decide_eq_true (by first | (with_reducible assumption) | assumption) : 0 ≤ x8_4)
                     by_cases c37 : x8_4 ≤ (x1_2.length : Int)
                     ·rw [if_pos c37] at H
                      have c37b0 := eq_true c37
                      have c37b1 : decide (x8_4 ≤ (x1_2.length : Int)) = true := decide_eq_true c37
                      clear c37
                      obtain ⟨y381, hy381⟩ : ∃ y_ : List (S24), y_ = (x1_2.take (x8_4 : Int).toNat) := ⟨_, rfl⟩
                      replace H : (if y378.length + y381.length < 2513169434916 then ((some (y378 ++ y381 : List (S24))).bind fun y386 => (if y386.length < 2513169434916 then ((some (y386 ++ [(⟨(rdOf ByteArray.empty t363 x5_2), ((rd_T76 t359 x3_1).f1), ((rd_T76 t359 x3_1).f2), x370003_3⟩ : S24)] : List (S24))).bind fun y389 => ((some (x1_2.drop (x8_4 : Int).toNat : List (S24))).bind fun y392 => (if y389.length + y392.length < 2513169434916 then (foolscapref09_All.l1 k4 (y389 ++ y392) t359 x3_1 t363 (wrap64 (x5_2 + 1))) else (none)))) else (none))) else (none)) = some r := by first | (rw [hy381]; with_reducible exact H) | (have H2_ := (Option.bind_some _ _).symm.trans H; rw [hy381]; with_reducible exact H2_) | (have H2_ := (Option.bind_some _ _).symm.trans H; with_reducible exact H2_) | with_reducible exact H | (rw [hy381]; exact H) | exact H
                      have Ny381 := Aside0.mk hy381
                      clear hy381
                      by_cases c38 : y378.length + y381.length < 2513169434916
                      ·rw [if_pos c38] at H
                       have LMc38 := Aside0.mk c38
                       clear c38
                       obtain ⟨y386, hy386⟩ : ∃ y_ : List (S24), y_ = (y378 ++ y381) := ⟨_, rfl⟩
                       replace H : (if y386.length < 2513169434916 then ((some (y386 ++ [(⟨(rdOf ByteArray.empty t363 x5_2), ((rd_T76 t359 x3_1).f1), ((rd_T76 t359 x3_1).f2), x370003_3⟩ : S24)] : List (S24))).bind fun y389 => ((some (x1_2.drop (x8_4 : Int).toNat : List (S24))).bind fun y392 => (if y389.length + y392.length < 2513169434916 then (foolscapref09_All.l1 k4 (y389 ++ y392) t359 x3_1 t363 (wrap64 (x5_2 + 1))) else (none)))) else (none)) = some r := by first | (rw [hy386]; with_reducible exact H) | (have H2_ := (Option.bind_some _ _).symm.trans H; rw [hy386]; with_reducible exact H2_) | (have H2_ := (Option.bind_some _ _).symm.trans H; with_reducible exact H2_) | with_reducible exact H | (rw [hy386]; exact H) | exact H
                       have Ny386 := Aside0.mk hy386
                       clear hy386
                       by_cases c39 : y386.length < 2513169434916
                       ·rw [if_pos c39] at H
                        have LMc39 := Aside0.mk c39
                        clear c39
                        obtain ⟨y389, hy389⟩ : ∃ y_ : List (S24), y_ = (y386 ++ [(⟨(rdOf ByteArray.empty t363 x5_2), ((rd_T76 t359 x3_1).f1), ((rd_T76 t359 x3_1).f2), x370003_3⟩ : S24)]) := ⟨_, rfl⟩
                        replace H : ((some (x1_2.drop (x8_4 : Int).toNat : List (S24))).bind fun y392 => (if y389.length + y392.length < 2513169434916 then (foolscapref09_All.l1 k4 (y389 ++ y392) t359 x3_1 t363 (wrap64 (x5_2 + 1))) else (none))) = some r := by first | (rw [hy389]; with_reducible exact H) | (have H2_ := (Option.bind_some _ _).symm.trans H; rw [hy389]; with_reducible exact H2_) | (have H2_ := (Option.bind_some _ _).symm.trans H; with_reducible exact H2_) | with_reducible exact H | (rw [hy389]; exact H) | exact H
                        have Ny389 := Aside0.mk hy389
                        clear hy389
                        have c40b0 := eq_true (of_decide_eq_true (by first | (with_reducible assumption) | assumption) : 0 ≤ x8_4)
                        have c41b0 := eq_true (of_decide_eq_true (by first | (with_reducible assumption) | assumption) : x8_4 ≤ (x1_2.length : Int))
                        obtain ⟨y392, hy392⟩ : ∃ y_ : List (S24), y_ = (x1_2.drop (x8_4 : Int).toNat) := ⟨_, rfl⟩
                        replace H : (if y389.length + y392.length < 2513169434916 then (foolscapref09_All.l1 k4 (y389 ++ y392) t359 x3_1 t363 (wrap64 (x5_2 + 1))) else (none)) = some r := by first | (rw [hy392]; with_reducible exact H) | (have H2_ := (Option.bind_some _ _).symm.trans H; rw [hy392]; with_reducible exact H2_) | (have H2_ := (Option.bind_some _ _).symm.trans H; with_reducible exact H2_) | with_reducible exact H | (rw [hy392]; exact H) | exact H
                        have Ny392 := Aside0.mk hy392
                        clear hy392
                        by_cases c42 : y389.length + y392.length < 2513169434916
                        ·rw [if_pos c42] at H
                         have LMc42 := Aside0.mk c42
                         clear c42
                         obtain ⟨y397, hy397⟩ : ∃ y_ : List (S24), y_ = (y389 ++ y392) := ⟨_, rfl⟩
                         replace H : (foolscapref09_All.l1 k4 y397 t359 x3_1 t363 (wrap64 (x5_2 + 1))) = some r := by first | (rw [hy397]; with_reducible exact H) | (have H2_ := (Option.bind_some _ _).symm.trans H; rw [hy397]; with_reducible exact H2_) | (have H2_ := (Option.bind_some _ _).symm.trans H; with_reducible exact H2_) | with_reducible exact H | (rw [hy397]; exact H) | exact H
                         have Ny397 := Aside0.mk hy397
                         clear hy397
                         have H' := Aside0.mk H
                         clear H
                         try go_wp2
                         have n0_ := Aside0.mk (Kd.N_drew HO_1.out)
                         have n1_ := Aside0.mk (Kd.R_drew HO_2.out)
                         have n2_ := Aside0.mk (Kd.R_drew HO_4.out)
                         have n3_ := Aside0.mk (Kd.R_drew HO_370003.out)
                         have n4_ := Aside0.mk (blk_drew BK369.out)
                         have n5_ := Aside0.mk (below_drew1 HB.out)
                         clear HO_1
                         clear HO_2
                         clear HO_4
                         clear HO_370003
                         clear BK369
                         clear HB
                         have HO_1 := n0_
                         have HO_2 := n1_
                         have HO_4 := n2_
                         have HO_370003 := n3_
                         have BK369 := n4_
                         have HB := n5_
                         clear n0_ n1_ n2_ n3_ n4_ n5_
                         obtain ⟨Ao44, co44, eo44⟩ := Kd.N_slice HO_1.out
                         (first | subst eo44 | (injection eo44 with f1_ f2_ f3_; have f4_ := f1_.symm; have f5_ := f3_.symm; clear f1_ f2_ f3_; subst f4_; subst f5_))
                         have p376 : 0 ≤ (x8_4 : Int) := of_decide_eq_true (by first | (with_reducible assumption) | assumption)
                         have q376 : x8_4 < (x1_2.length : Int) := of_decide_eq_true (by first | (with_reducible assumption) | assumption)
                         obtain ⟨ad376, A376_3, c376_3, e376, hx376_0, hx376_1, hx376_2, hx376_3, hl376_3, hi376_3⟩ := at_T24 (Kd.N_reads' HO_1.out).2.2 x8_4 p376 q376
                         cases e376
                         obtain ⟨ce376, hce376, hMe376, hcc376⟩ := Kd.N_get HO_1.out z24 x8_4 p376 (by first | exact q376 | exact of_decide_eq_true (by first | (with_reducible assumption) | assumption) | (have e_ := (Kd.N_reads' HO_1.out).1; omega))
                         obtain ⟨ua376_3, uc376_3, rfl, ul376_3, ge376_3⟩ := k24_openF hMe376
                         have hv376_3 := hcc376 3 _ rfl
                         rw [add_field _ _ 3 (by omega)] at hv376_3
                         replace hv376_3 := Option.some.inj (hv376_3.symm.trans hx376_3)
                         injection hv376_3 with hva_ hvn_ hvc_
                         rw [hva_] at ge376_3
                         rw [hvc_] at ul376_3
                         have HL376_3 := Aside0.mk (show Kd.V (Kd.int .i64) 62 _ w.heap.size _ _ ((rd_T24 x1_2 x8_4).f3) from Kd.V_mk ul376_3 ge376_3)
                         clear hva_ hvn_ hvc_ ge376_3 ul376_3
                         clear hcc376 hce376
                         have HR376_3 := Aside0.mk hi376_3
                         have HC376_3 := Aside0.mk hl376_3
                         clear hi376_3 hl376_3
                         replace p376 := eq_true p376
                         replace q376 := eq_true q376
                         refine start_ (n := 15) (S := fun w' => w'.cell? ⟨gb369, 0, none⟩ = some (.string (rdOf ByteArray.empty t363 x5_2)) ∧ w'.cell? ⟨gb369, 1, none⟩ = some (.int .i64 ((rd_T76 t359 x3_1).f1)) ∧ w'.cell? ⟨gb369, 2, none⟩ = some (.int .i64 ((rd_T76 t359 x3_1).f2)) ∧ w'.cell? ⟨gb369, 3, none⟩ = some (u370003) ∧ w'.cell? (ad376.add ((x8_4).toNat * 4)) = some (.string ((rd_T24 x1_2 x8_4).f0)) ∧ w'.cell? ⟨(ad376.add ((x8_4).toNat * 4)).block, (ad376.add ((x8_4).toNat * 4)).off + 1, none⟩ = some (.int .i64 ((rd_T24 x1_2 x8_4).f1)) ∧ w'.cell? ⟨(ad376.add ((x8_4).toNat * 4)).block, (ad376.add ((x8_4).toNat * 4)).off + 2, none⟩ = some (.int .i64 ((rd_T24 x1_2 x8_4).f2)) ∧ w'.cell? ⟨(ad376.add ((x8_4).toNat * 4)).block, (ad376.add ((x8_4).toNat * 4)).off + 3, none⟩ = some (.slice A376_3 ((rd_T24 x1_2 x8_4).f3).length c376_3)) (ds := []) (Array.replicate 15 false) (by kernel_rfl) rfl rfl ⟨(blk_cell BK369.out 0).trans rfl, (blk_cell BK369.out 1).trans rfl, (blk_cell BK369.out 2).trans rfl, (blk_cell BK369.out 3).trans rfl, hx376_0, hx376_1, hx376_2, hx376_3⟩ (fun hHeld => ?_); refine with_tabW foolscapref09_All.tab16 foolscapref09_All.bits16 (fun HT_ HW_ => ?_)
                         generalize wr.drew = w43 at HO_1 HO_2 HO_4 HO_370003 BK369 HB HL376_3 HR376_3 hx376_0 hx376_1 hx376_2 hx376_3 hHeld ⊢
                         refine pure_ (i := 0) (N := some 67) (v := ?_) (a' := ?_) #[true, false, false, false, false, false, false, false, false, false, false, false, false, false, false] rfl rfl (any_of HT_.out (by kernel_rfl)) (fun _ _ _ h => h) (Or.inl ⟨by rfl, ?_⟩) ?_ ?_
                         rotate_left
                         ·intro w'
                          go_simp
                          with_reducible rfl
                         rotate_left
                         ·simp only [Act.put, List.setIfInBounds_toArray, List.set_cons_zero, List.set_cons_succ, i64_w, i32_w]
                          rfl
                         refine pure_ (i := 1) (N := some 68) (v := ?_) (a' := ?_) #[true, true, false, false, false, false, false, false, false, false, false, false, false, false, false] rfl rfl (any_of HT_.out (by kernel_rfl)) (fun _ _ _ h => h) (Or.inl ⟨by rfl, ?_⟩) ?_ ?_
                         rotate_left
                         ·intro w'
                          go_simp
                          with_reducible rfl
                         rotate_left
                         ·simp only [Act.put, List.setIfInBounds_toArray, List.set_cons_zero, List.set_cons_succ, i64_w, i32_w]
                          rfl
                         refine pure_ (i := 2) (N := some 69) (v := ?_) (a' := ?_) #[true, true, true, false, false, false, false, false, false, false, false, false, false, false, false] rfl rfl (any_of HT_.out (by kernel_rfl)) (fun _ _ _ h => h) (Or.inl ⟨by rfl, ?_⟩) ?_ ?_
                         rotate_left
                         ·intro w'
                          go_simp
                          with_reducible rfl
                         rotate_left
                         ·simp only [Act.put, List.setIfInBounds_toArray, List.set_cons_zero, List.set_cons_succ, i64_w, i32_w]
                          rfl
                         refine pure_ (i := 3) (N := some 70) (v := ?_) (a' := ?_) #[true, true, true, true, false, false, false, false, false, false, false, false, false, false, false] rfl rfl (any_of HT_.out (by kernel_rfl)) (fun _ _ _ h => h) (Or.inl ⟨by rfl, ?_⟩) ?_ ?_
                         rotate_left
                         ·intro w'
                          go_simp
                          with_reducible rfl
                         rotate_left
                         ·simp only [Act.put, List.setIfInBounds_toArray, List.set_cons_zero, List.set_cons_succ, i64_w, i32_w]
                          rfl
                         refine pure_ (i := 4) (N := some 71) (v := ?_) (a' := ?_) #[true, true, true, true, true, false, false, false, false, false, false, false, false, false, false] rfl rfl (any_of HT_.out (by kernel_rfl)) (fun _ _ _ h => h) (Or.inl ⟨by rfl, ?_⟩) ?_ ?_
                         rotate_left
                         ·intro w'
                          go_simp
                          with_reducible rfl
                         rotate_left
                         ·simp only [Act.put, List.setIfInBounds_toArray, List.set_cons_zero, List.set_cons_succ, i64_w, i32_w]
                          rfl
                         refine pure_ (i := 5) (N := some 72) (v := ?_) (a' := ?_) #[true, true, true, true, true, true, false, false, false, false, false, false, false, false, false] rfl rfl (any_of HT_.out (by kernel_rfl)) (fun _ _ _ h => h) (Or.inl ⟨by rfl, ?_⟩) ?_ ?_
                         rotate_left
                         ·intro w'
                          go_simp
                          with_reducible rfl
                         rotate_left
                         ·simp only [Act.put, List.setIfInBounds_toArray, List.set_cons_zero, List.set_cons_succ, i64_w, i32_w]
                          rfl
                         refine pure_ (i := 6) (N := some 73) (v := ?_) (a' := ?_) #[true, true, true, true, true, true, true, false, false, false, false, false, false, false, false] rfl rfl (any_of HT_.out (by kernel_rfl)) (fun _ _ _ h => h) (Or.inl ⟨by rfl, ?_⟩) ?_ ?_
                         rotate_left
                         ·intro w'
                          go_simp
                          with_reducible rfl
                         rotate_left
                         ·simp only [Act.put, List.setIfInBounds_toArray, List.set_cons_zero, List.set_cons_succ, i64_w, i32_w]
                          rfl
                         refine pure_ (i := 7) (N := some 74) (v := ?_) (a' := ?_) #[true, true, true, true, true, true, true, true, false, false, false, false, false, false, false] rfl rfl (any_of HT_.out (by kernel_rfl)) (fun _ _ _ h => h) (Or.inl ⟨by rfl, ?_⟩) ?_ ?_
                         rotate_left
                         ·intro w'
                          go_simp
                          with_reducible rfl
                         rotate_left
                         ·simp only [Act.put, List.setIfInBounds_toArray, List.set_cons_zero, List.set_cons_succ, i64_w, i32_w]
                          rfl
                         refine pure_ (i := 8) (N := some 75) (v := ?_) (a' := ?_) #[true, true, true, true, true, true, true, true, true, false, false, false, false, false, false] rfl rfl (any_of HT_.out (by kernel_rfl)) (fun _ _ _ h => h) (Or.inl ⟨by rfl, ?_⟩) ?_ ?_
                         rotate_left
                         ·intro w'
                          go_simp
                          with_reducible rfl
                         rotate_left
                         ·simp only [Act.put, List.setIfInBounds_toArray, List.set_cons_zero, List.set_cons_succ, i64_w, i32_w]
                          rfl
                         refine pure_ (i := 10) (N := some 77) (v := ?_) (a' := ?_) #[true, true, true, true, true, true, true, true, true, false, true, false, false, false, false] rfl rfl (any_of HT_.out (by kernel_rfl)) (fun _ _ _ h => h) (Or.inl ⟨by rfl, ?_⟩) ?_ ?_
                         rotate_left
                         ·intro w'
                          go_simp
                          with_reducible rfl
                         rotate_left
                         ·simp only [Act.put, List.setIfInBounds_toArray, List.set_cons_zero, List.set_cons_succ, i64_w, i32_w]
                          rfl
                         refine take_ (i := 9) (N := some 76) (v := ?_) (a' := ?_) #[true, true, true, true, true, true, true, true, true, true, true, false, false, false, false] rfl rfl (take_ofW HT_.out HW_.out (by kernel_rfl)) (fun _ _ _ h => h) (Or.inl ⟨by rfl, ?_⟩) hHeld ?_ ?_
                         rotate_left
                         ·rintro w' ⟨s0, s1, s2, s3, s4, s5, s6, s7⟩
                          go_simp
                          with_reducible rfl
                         rotate_left
                         ·simp only [Act.put, List.setIfInBounds_toArray, List.set_cons_zero, List.set_cons_succ, i64_w, i32_w]
                          rfl
                         refine take_ (i := 11) (N := some 78) (v := ?_) (a' := ?_) #[true, true, true, true, true, true, true, true, true, true, true, true, false, false, false] rfl rfl (take_ofW HT_.out HW_.out (by kernel_rfl)) (fun _ _ _ h => h) (Or.inl ⟨by rfl, ?_⟩) hHeld ?_ ?_
                         rotate_left
                         ·rintro w' ⟨s0, s1, s2, s3, s4, s5, s6, s7⟩
                          go_simp
                          with_reducible rfl
                         rotate_left
                         ·simp only [Act.put, List.setIfInBounds_toArray, List.set_cons_zero, List.set_cons_succ, i64_w, i32_w]
                          rfl
                         refine one_ (i := 12) (N := some 79) #[true, true, true, true, true, true, true, true, true, true, true, true, true, false, false] rfl rfl (one_of HT_.out (by kernel_rfl)) (by decide) (fun K hK => ?_)
                         refine goes_ Tryz.func47 (by kernel_rfl) rfl #[.string ((rd_T24 x1_2 x8_4).f0), .string (rdOf ByteArray.empty t363 x5_2)] (by rfl) rfl rfl (by (try simp only [List.map_toArray, List.map_cons, List.map_nil]); first | done | rfl | (simp only [List.length_drop, List.length_take]; rfl) | (simp only [ByteArray.size_append, Int.natCast_add]; done) | (simp only [ByteArray.size_append, Int.natCast_add]; rfl) | (simp only [Array.mk.injEq, List.cons.injEq, Value.int.injEq, true_and, and_true]; (try simp only [mx, mn, wrap64] at *); omega)) ?_
                         with_reducible refine (foolscapref04_Bytes.calls k4 ((rd_T24 x1_2 x8_4).f0) (rdOf ByteArray.empty t363 x5_2) t377 _ A32.out).mono ?_
                         rintro e w' ⟨rfl, ⟨nd, rfl⟩⟩
                         refine ⟨_, rfl, ?_⟩
                         refine hK.out _ _ ⟨(blk_cell BK369.out 0).trans rfl, (blk_cell BK369.out 1).trans rfl, (blk_cell BK369.out 2).trans rfl, (blk_cell BK369.out 3).trans rfl, hHeld.2.2.2.2.1, hHeld.2.2.2.2.2.1, hHeld.2.2.2.2.2.2.1, hHeld.2.2.2.2.2.2.2⟩ (fun hHeld => ?_)
                         clear hK K
                         refine norm_ (a' := ?_) ?_ ?_
                         rotate_left
                         ·show Act.put _ (some 79) _ = _
                          simp only [Act.put, List.setIfInBounds_toArray, List.set_cons_zero, List.set_cons_succ, i64_w, i32_w]
                          rfl
                         refine pure_ (i := 13) (N := some 80) (v := ?_) (a' := ?_) #[true, true, true, true, true, true, true, true, true, true, true, true, true, true, false] rfl rfl (any_of HT_.out (by kernel_rfl)) (fun _ _ _ h => h) (Or.inl ⟨by rfl, ?_⟩) ?_ ?_
                         rotate_left
                         ·intro w'
                          go_simp
                          with_reducible rfl
                         rotate_left
                         ·simp only [Act.put, List.setIfInBounds_toArray, List.set_cons_zero, List.set_cons_succ, i64_w, i32_w]
                          rfl
                         refine pure_ (i := 14) (N := some 81) (v := ?_) (a' := ?_) #[true, true, true, true, true, true, true, true, true, true, true, true, true, true, true] rfl rfl (any_of HT_.out (by kernel_rfl)) (fun _ _ _ h => h) (Or.inl ⟨by rfl, ?_⟩) ?_ ?_
                         rotate_left
                         ·intro w'
                          go_simp
                          with_reducible rfl
                         rotate_left
                         ·simp only [Act.put, List.setIfInBounds_toArray, List.set_cons_zero, List.set_cons_succ, i64_w, i32_w]
                          rfl
                         refine done_ (done_of HT_.out (by kernel_rfl)) ?_
                         try go_wp2_with (first | ((with_reducible refine gate_dst (N := 84) rfl ?_); refine Kd.N_lit k24 _ 24 ?hg (N' := 84) ?hd (xs := ([] : List (S24))) (inner := []) (ok := (fun k_ => (w.heap.size ≤ k_) ∧ some k_ ≠ (.slice (some ad376) x1_2.length co44 : Value).ownBlock ∧ some k_ ≠ (.slice (some ad362) t359.length co6 : Value).ownBlock ∧ some k_ ≠ (.slice (some ad366) t363.length co12 : Value).ownBlock ∧ some k_ ≠ (u370003 : Value).ownBlock ∧ k_ ≠ gb369)) (okp := (fun k_ => (w.heap.size ≤ k_) ∧ some k_ ≠ (.slice (some ad376) x1_2.length co44 : Value).ownBlock ∧ some k_ ≠ (.slice (some ad362) t359.length co6 : Value).ownBlock ∧ some k_ ≠ (.slice (some ad366) t363.length co12 : Value).ownBlock ∧ some k_ ≠ (u370003 : Value).ownBlock ∧ k_ ≠ gb369)) ?hr ?hp (fun _ hk => hk) ((show ∀ k_, w43.heap.size ≤ k_ → (fun k_ => (w.heap.size ≤ k_) ∧ some k_ ≠ (.slice (some ad376) x1_2.length co44 : Value).ownBlock ∧ some k_ ≠ (.slice (some ad362) t359.length co6 : Value).ownBlock ∧ some k_ ≠ (.slice (some ad366) t363.length co12 : Value).ownBlock ∧ some k_ ≠ (u370003 : Value).ownBlock ∧ k_ ≠ gb369) k_ from fun k_ hk => ⟨(Nat.le_trans (below_size (by repeat (first | (with_reducible first | exact HB.out | apply below_alloc | apply pw_below_drewN | apply below_drew1 | refine below_set ?_ GE369.out) | exact HB.out))) hk), Kd.fresh' (Kd.N_lt (by (with_reducible repeat (first | apply Kd.N_alloc | apply Kd.N_drewN | apply Kd.N_drew)); exact HO_1.out)) k_ hk, Kd.fresh' (Kd.R_lt (by (with_reducible repeat (first | apply Kd.R_alloc | apply Kd.R_drewN | apply Kd.R_drew)); exact HO_2.out)) k_ hk, Kd.fresh' (Kd.R_lt (by (with_reducible repeat (first | apply Kd.R_alloc | apply Kd.R_drewN | apply Kd.R_drew)); exact HO_4.out)) k_ hk, Kd.fresh' (Kd.R_lt (by (with_reducible repeat (first | apply Kd.R_alloc | apply Kd.R_drewN | apply Kd.R_drew)); exact HO_370003.out)) k_ hk, Kd.freshB (g := gb369) (o := .cells #[.string (rdOf ByteArray.empty t363 x5_2), .int .i64 ((rd_T76 t359 x3_1).f1), .int .i64 ((rd_T76 t359 x3_1).f2), u370003] 24 (0, 0)) (by (with_reducible repeat (first | refine blk_drewN ?_ _ | refine blk_drew ?_ | refine blk_alloc ?_ _)); exact BK369.out) k_ hk⟩) _ (Nat.le_refl _)) (Below.refl _ _) (Nat.le_refl _) (by simp) ?_; (case hd => rfl); (case hg => rfl); (case hr => first | (go_simp; done) | (go_simp; rfl)); (case hp => exact (Reps.none _ _)); intro v379 w45 ho46 hb hg_ hnew_; clear hg_ hnew_; (first | rw [← Ny378.out] at ho46 | (simp only [Int.reduceToNat] at ho46; rw [← Ny378.out] at ho46)); have n0_ := Aside0.mk (Kd.N_elder' (by (with_reducible repeat (first | apply Kd.N_alloc | apply Kd.N_drewN | apply Kd.N_drew)); exact HO_1.out) (Kd.N_base ho46) hb); have n1_ := Aside0.mk (Kd.R_below (by (with_reducible repeat (first | apply Kd.R_alloc | apply Kd.R_drewN | apply Kd.R_drew)); exact HO_2.out) hb); have n2_ := Aside0.mk (Kd.R_below (by (with_reducible repeat (first | apply Kd.R_alloc | apply Kd.R_drewN | apply Kd.R_drew)); exact HO_4.out) hb); have n3_ := Aside0.mk (Kd.R_below (by (with_reducible repeat (first | apply Kd.R_alloc | apply Kd.R_drewN | apply Kd.R_drew)); exact HO_370003.out) hb); have n4_ := Aside0.mk (Kd.V_elder' (by (with_reducible repeat (first | apply Kd.V_alloc | apply Kd.V_drewN | apply Kd.V_drew)); exact HL376_3.out) (Kd.N_base ho46) hb); have n5_ := Aside0.mk (Kd.N_lower ho46 (below_size (by repeat (first | (with_reducible first | exact HB.out | apply below_alloc | apply pw_below_drewN | apply below_drew1 | refine below_set ?_ GE369.out) | exact HB.out)))); have n6_ := Aside0.mk (blk_below (g := gb369) (o := .cells #[.string (rdOf ByteArray.empty t363 x5_2), .int .i64 ((rd_T76 t359 x3_1).f1), .int .i64 ((rd_T76 t359 x3_1).f2), u370003] 24 (0, 0)) (by (with_reducible repeat (first | refine blk_drewN ?_ _ | refine blk_drew ?_ | refine blk_alloc ?_ _)); exact BK369.out) hb); have n7_ := Aside0.mk (Kd.C_below (by repeat (first | (with_reducible exact HR376_3.out) | (with_reducible refine Kd.C_alloc ?_ _) | (with_reducible refine Kd.C_drewN ?_ _) | (with_reducible refine Kd.C_drew ?_) | exact HR376_3.out)) hb); have n8_ := Aside0.mk (below_step (by repeat (first | (with_reducible first | exact HB.out | apply below_alloc | apply pw_below_drewN | apply below_drew1 | refine below_set ?_ GE369.out) | exact HB.out)) hb); clear HO_1; clear HO_2; clear HO_4; clear HO_370003; clear HL376_3; clear BK369; clear HR376_3; clear HB; have HO_1 := n0_; have HO_2 := n1_; have HO_4 := n2_; have HO_370003 := n3_; have HL376_3 := n4_; have HO380 := n5_; have BK369 := n6_; have HR376_3 := n7_; have HB := n8_; clear n0_ n1_ n2_ n3_ n4_ n5_ n6_ n7_ n8_; clear hb ho46; have q47 : (x8_4 : Int) ≤ ((x1_2.length : Int) : Int) := of_decide_eq_true (by first | (with_reducible assumption) | assumption); obtain ⟨i047, hi047, _, hsz47, _⟩ := info_parts info24; have hroom47 : x1_2.length ≤ co44 := (Kd.N_reads' HO_1.out).2.1; have hC47 : Kd.F k24 _ _ (some ad376) x1_2.length x1_2 := (Kd.V_at (base := w.heap.size) (Kd.N_V HO_1.out)).2.2; have hcut47 := cut_to (P := Tryz.prog) 60 24 .i64 Tryz.underlying60 hi047 (some ad376) x1_2.length co44 x8_4 (of_decide_eq_true (by first | (with_reducible assumption) | assumption)) q47 hroom47; have hr47 := Kd.F_take (m := (x8_4 : Int).toNat) hC47 (by omega); have hy47 : y381.length = (x8_4 : Int).toNat := (by rw [Ny381.out, List.length_take]; omega); rw [← Ny381.out] at hr47; rw [← hy47] at hcut47; have HO385 := Aside0.mk (show Kd.V k24 24 _ w.heap.size _ (.slice (some ad376) y381.length co44) y381 from Kd.V_mk (by omega) hr47); have HC385 := Aside0.mk (show y381.length ≤ co44 from by omega); clear hr47 hC47 hroom47 hi047 hsz47; have KY47 := Aside0.mk hy47; clear hy47; replace q47 := eq_true q47) | ((with_reducible refine gate_builtin (b := .append) (xs := #[.tmp 84, .tmp 87]) rfl ?_); at_builtin; refine Kd.N_append_rows k24 (w0 := w) w.heap.size rfl (.tmp 84) (.tmp 87) 60 24 (.agg #[(.string ⟨#[]⟩), (.int .i64 0), (.int .i64 0), (.slice none 0 0)]) 56 rfl Tryz.underlying60 info24 rfl (by decide) (by omega) v379 y378 y381 _ _ _ (fun k_ => (w.heap.size ≤ k_) ∧ some k_ ≠ (.slice (some ad362) t359.length co6 : Value).ownBlock ∧ some k_ ≠ (.slice (some ad366) t363.length co12 : Value).ownBlock ∧ some k_ ≠ (u370003 : Value).ownBlock ∧ k_ ≠ gb369) (fun k_ => ((fun k_ => (w.heap.size ≤ k_) ∧ some k_ ≠ (.slice (some ad362) t359.length co6 : Value).ownBlock ∧ some k_ ≠ (.slice (some ad366) t363.length co12 : Value).ownBlock ∧ some k_ ≠ (u370003 : Value).ownBlock ∧ k_ ≠ gb369)) k_ ∧ some k_ ≠ (v379 : Value).ownBlock) rfl rfl ?aO ?aR (fun _ hk => hk) ?aF ?aB ?aS ?aL ?_; (case aR => exact (by skip; exact Kd.V_F (Kd.V_mono (ok' := (fun k_ => ((fun k_ => (w.heap.size ≤ k_) ∧ some k_ ≠ (.slice (some ad362) t359.length co6 : Value).ownBlock ∧ some k_ ≠ (.slice (some ad366) t363.length co12 : Value).ownBlock ∧ some k_ ≠ (u370003 : Value).ownBlock ∧ k_ ≠ gb369)) k_ ∧ some k_ ≠ (v379 : Value).ownBlock)) (HO385.out) (fun k_ hk => ⟨⟨hk.1.1, ⟨hk.1.2.1, ⟨hk.1.2.2.1, ⟨hk.1.2.2.2.1, hk.1.2.2.2.2⟩⟩⟩⟩, hk.2⟩)))); (case aB => exact (by repeat (first | (with_reducible first | exact HB.out | apply below_alloc | apply pw_below_drewN | apply below_drew1 | refine below_set ?_ GE369.out) | exact HB.out))); (case aF => exact (fun k_ hk => ⟨(Nat.le_trans (below_size (by repeat (first | (with_reducible first | exact HB.out | apply below_alloc | apply pw_below_drewN | apply below_drew1 | refine below_set ?_ GE369.out) | exact HB.out))) hk), Kd.fresh' (Kd.R_lt (by (with_reducible repeat (first | apply Kd.R_alloc | apply Kd.R_drewN | apply Kd.R_drew)); exact HO_2.out)) k_ hk, Kd.fresh' (Kd.R_lt (by (with_reducible repeat (first | apply Kd.R_alloc | apply Kd.R_drewN | apply Kd.R_drew)); exact HO_4.out)) k_ hk, Kd.fresh' (Kd.R_lt (by (with_reducible repeat (first | apply Kd.R_alloc | apply Kd.R_drewN | apply Kd.R_drew)); exact HO_370003.out)) k_ hk, Kd.freshB (g := gb369) (o := .cells #[.string (rdOf ByteArray.empty t363 x5_2), .int .i64 ((rd_T76 t359 x3_1).f1), .int .i64 ((rd_T76 t359 x3_1).f2), u370003] 24 (0, 0)) (by (with_reducible repeat (first | refine blk_drewN ?_ _ | refine blk_drew ?_ | refine blk_alloc ?_ _)); exact BK369.out) k_ hk⟩)); (case aO => exact (by (with_reducible repeat (first | apply Kd.N_alloc | apply Kd.N_drewN | apply Kd.N_drew)); exact Kd.N_mono HO380.out (fun _ hk => ⟨hk.1, ⟨hk.2.2.1, ⟨hk.2.2.2.1, ⟨hk.2.2.2.2.1, hk.2.2.2.2.2⟩⟩⟩⟩))); (case aS => exact (below_size (by repeat (first | (with_reducible first | exact HB.out | apply below_alloc | apply pw_below_drewN | apply below_drew1 | refine below_set ?_ GE369.out) | exact HB.out)))); (case aL => have := LMc38.out; omega); intro v387 w48 ho hb hg hat; rw [← Ny386.out] at ho; have n0_ := Aside0.mk (Kd.N_afterv (ok := (fun k_ => (w.heap.size ≤ k_) ∧ some k_ ≠ (.slice (some ad362) t359.length co6 : Value).ownBlock ∧ some k_ ≠ (.slice (some ad366) t363.length co12 : Value).ownBlock ∧ some k_ ≠ (u370003 : Value).ownBlock ∧ k_ ≠ gb369)) (by (with_reducible repeat (first | apply Kd.N_alloc | apply Kd.N_drewN | apply Kd.N_drew)); exact HO_1.out) hg hat); have n1_ := Aside0.mk (Kd.R_over' (by (with_reducible repeat (first | apply Kd.R_alloc | apply Kd.R_drewN | apply Kd.R_drew)); exact HO_2.out) (Kd.N_typed (by (with_reducible repeat (first | apply Kd.N_alloc | apply Kd.N_drewN | apply Kd.N_drew)); exact HO380.out)) (by decide) hg); have n2_ := Aside0.mk (Kd.R_over' (by (with_reducible repeat (first | apply Kd.R_alloc | apply Kd.R_drewN | apply Kd.R_drew)); exact HO_4.out) (Kd.N_typed (by (with_reducible repeat (first | apply Kd.N_alloc | apply Kd.N_drewN | apply Kd.N_drew)); exact HO380.out)) (by decide) hg); have n3_ := Aside0.mk (Kd.R_over' (by (with_reducible repeat (first | apply Kd.R_alloc | apply Kd.R_drewN | apply Kd.R_drew)); exact HO_370003.out) (Kd.N_typed (by (with_reducible repeat (first | apply Kd.N_alloc | apply Kd.N_drewN | apply Kd.N_drew)); exact HO380.out)) (by decide) hg); have n4_ := Aside0.mk (blk_grown (g := gb369) (o := .cells #[.string (rdOf ByteArray.empty t363 x5_2), .int .i64 ((rd_T76 t359 x3_1).f1), .int .i64 ((rd_T76 t359 x3_1).f2), u370003] 24 (0, 0)) (by (with_reducible repeat (first | refine blk_drewN ?_ _ | refine blk_drew ?_ | refine blk_alloc ?_ _)); exact BK369.out) hg (Kd.N_away HO380.out (fun _ hk => hk.2.2.2.2.2))); have n5_ := Aside0.mk (Kd.V_afterv (ok := (fun k_ => (w.heap.size ≤ k_) ∧ some k_ ≠ (.slice (some ad376) x1_2.length co44 : Value).ownBlock ∧ some k_ ≠ (.slice (some ad362) t359.length co6 : Value).ownBlock ∧ some k_ ≠ (.slice (some ad366) t363.length co12 : Value).ownBlock ∧ some k_ ≠ (u370003 : Value).ownBlock ∧ k_ ≠ gb369)) (by (with_reducible repeat (first | apply Kd.V_alloc | apply Kd.V_drewN | apply Kd.V_drew)); exact Kd.V_mono HL376_3.out (fun _ hk => ⟨⟨hk.1.1.1, ⟨hk.1.2, ⟨hk.1.1.2.1, ⟨hk.1.1.2.2.1, ⟨hk.1.1.2.2.2.1, hk.1.1.2.2.2.2⟩⟩⟩⟩⟩, hk.2⟩)) hg hat); have n6_ := Aside0.mk (Kd.V_afterv (ok := (fun k_ => (w.heap.size ≤ k_) ∧ some k_ ≠ (.slice (some ad362) t359.length co6 : Value).ownBlock ∧ some k_ ≠ (.slice (some ad366) t363.length co12 : Value).ownBlock ∧ some k_ ≠ (u370003 : Value).ownBlock ∧ k_ ≠ gb369)) (by (with_reducible repeat (first | apply Kd.V_alloc | apply Kd.V_drewN | apply Kd.V_drew)); exact HO385.out) hg hat); have n7_ := Aside0.mk (hb); have n8_ := Aside0.mk (ho); clear HO_1; clear HO_2; clear HO_4; clear HO_370003; clear BK369; clear HL376_3; clear HO385; clear HB; clear HO380; have HO_1 := n0_; have HO_2 := n1_; have HO_4 := n2_; have HO_370003 := n3_; have BK369 := n4_; have HL376_3 := n5_; have HO385 := n6_; have HB := n7_; have HO388 := n8_; clear n0_ n1_ n2_ n3_ n4_ n5_ n6_ n7_ n8_; clear ho hb hg hat; have hcz49_0 : w48.cell? ⟨gb369, 0, none⟩ = some (.string (rdOf ByteArray.empty t363 x5_2)) := (blk_cell BK369.out 0).trans rfl; have hcz49_1 : w48.cell? ⟨gb369, 1, none⟩ = some (.int .i64 ((rd_T76 t359 x3_1).f1)) := (blk_cell BK369.out 1).trans rfl; have hcz49_2 : w48.cell? ⟨gb369, 2, none⟩ = some (.int .i64 ((rd_T76 t359 x3_1).f2)) := (blk_cell BK369.out 2).trans rfl; have hcz49_3 : w48.cell? ⟨gb369, 3, none⟩ = some (u370003) := (blk_cell BK369.out 3).trans rfl; have hfz49_0 := blk_frozen BK369.out 0; have hfz49_1 := blk_frozen BK369.out 1; have hfz49_2 := blk_frozen BK369.out 2; have hfz49_3 := blk_frozen BK369.out 3; obtain ⟨Ao51, co51, eo51⟩ := Kd.R_slice HO_370003.out; subst eo51) | ((with_reducible refine gate_builtin (b := .append) (xs := #[.tmp 89, .tmp 91]) rfl ?_); at_builtin; refine Kd.N_append k24 (w0 := w) w.heap.size rfl (.tmp 89) (.tmp 91) 60 24 (.agg #[(.string ⟨#[]⟩), (.int .i64 0), (.int .i64 0), (.slice none 0 0)]) 56 rfl Tryz.underlying60 info24 rfl (by decide) (by omega) v387 y386 (⟨(rdOf ByteArray.empty t363 x5_2), ((rd_T76 t359 x3_1).f1), ((rd_T76 t359 x3_1).f2), x370003_3⟩ : S24) [.string (rdOf ByteArray.empty t363 x5_2), .int .i64 ((rd_T76 t359 x3_1).f1), .int .i64 ((rd_T76 t359 x3_1).f2), .slice Ao51 x370003_3.length co51] (fun k_ => (w.heap.size ≤ k_) ∧ some k_ ≠ (.slice (some ad362) t359.length co6 : Value).ownBlock ∧ some k_ ≠ (.slice (some ad366) t363.length co12 : Value).ownBlock ∧ k_ ≠ gb369) (fun k_ => ((fun k_ => (w.heap.size ≤ k_) ∧ some k_ ≠ (.slice (some ad362) t359.length co6 : Value).ownBlock ∧ some k_ ≠ (.slice (some ad366) t363.length co12 : Value).ownBlock ∧ k_ ≠ gb369)) k_ ∧ some k_ ≠ (v387 : Value).ownBlock) rfl rfl ?aP (fun _ hk => hk) ?aF ?aO ?aB ?aS ?aL ?_; (case aP => exact (k24_mkF _ _ (⟨(rdOf ByteArray.empty t363 x5_2), ((rd_T76 t359 x3_1).f1), ((rd_T76 t359 x3_1).f2), x370003_3⟩ : S24) (Kd.R_reads' (Kd.R_mono (ok' := (fun k_ => ((fun k_ => (w.heap.size ≤ k_) ∧ some k_ ≠ (.slice (some ad362) t359.length co6 : Value).ownBlock ∧ some k_ ≠ (.slice (some ad366) t363.length co12 : Value).ownBlock ∧ k_ ≠ gb369)) k_ ∧ some k_ ≠ (v387 : Value).ownBlock)) (Kd.R_types (Kd.R_apart' (Kd.R_apart' (Kd.R_apart' (HO_370003.out) (Kd.R_typed HO_2.out) (by decide)) (Kd.R_typed HO_4.out) (by decide)) (Kd.N_typed HO388.out) (by decide)) BK369.out (by decide)) (fun k_ hk => ⟨⟨hk.1.1.1.1, ⟨hk.1.1.1.2, ⟨hk.1.1.2, hk.2⟩⟩⟩, hk.1.2⟩))).2.1 (Kd.R_F (Kd.R_mono (ok' := (fun k_ => ((fun k_ => (w.heap.size ≤ k_) ∧ some k_ ≠ (.slice (some ad362) t359.length co6 : Value).ownBlock ∧ some k_ ≠ (.slice (some ad366) t363.length co12 : Value).ownBlock ∧ k_ ≠ gb369)) k_ ∧ some k_ ≠ (v387 : Value).ownBlock)) (Kd.R_types (Kd.R_apart' (Kd.R_apart' (Kd.R_apart' (HO_370003.out) (Kd.R_typed HO_2.out) (by decide)) (Kd.R_typed HO_4.out) (by decide)) (Kd.N_typed HO388.out) (by decide)) BK369.out (by decide)) (fun k_ hk => ⟨⟨hk.1.1.1.1, ⟨hk.1.1.1.2, ⟨hk.1.1.2, hk.2⟩⟩⟩, hk.1.2⟩))))); (case aB => exact (by repeat (first | (with_reducible first | exact HB.out | apply below_alloc | apply pw_below_drewN | apply below_drew1 | refine below_set ?_ GE369.out) | exact HB.out))); (case aF => exact (fun k_ hk => ⟨(Nat.le_trans (below_size (by repeat (first | (with_reducible first | exact HB.out | apply below_alloc | apply pw_below_drewN | apply below_drew1 | refine below_set ?_ GE369.out) | exact HB.out))) hk), Kd.fresh' (Kd.R_lt (by (with_reducible repeat (first | apply Kd.R_alloc | apply Kd.R_drewN | apply Kd.R_drew)); exact HO_2.out)) k_ hk, Kd.fresh' (Kd.R_lt (by (with_reducible repeat (first | apply Kd.R_alloc | apply Kd.R_drewN | apply Kd.R_drew)); exact HO_4.out)) k_ hk, Kd.freshB (g := gb369) (o := .cells #[.string (rdOf ByteArray.empty t363 x5_2), .int .i64 ((rd_T76 t359 x3_1).f1), .int .i64 ((rd_T76 t359 x3_1).f2), .slice Ao51 x370003_3.length co51] 24 (0, 0)) (by (with_reducible repeat (first | refine blk_drewN ?_ _ | refine blk_drew ?_ | refine blk_alloc ?_ _)); exact BK369.out) k_ hk⟩)); (case aO => exact (by (with_reducible repeat (first | apply Kd.N_alloc | apply Kd.N_drewN | apply Kd.N_drew)); exact Kd.N_mono HO388.out (fun _ hk => ⟨hk.1, ⟨hk.2.1, ⟨hk.2.2.1, hk.2.2.2.2⟩⟩⟩))); (case aS => exact (below_size (by repeat (first | (with_reducible first | exact HB.out | apply below_alloc | apply pw_below_drewN | apply below_drew1 | refine below_set ?_ GE369.out) | exact HB.out)))); (case aL => have := LMc39.out; omega); intro v390 w50 ho hb hg hat; rw [← Ny389.out] at ho; have n0_ := Aside0.mk (Kd.N_afterv (ok := (fun k_ => (w.heap.size ≤ k_) ∧ some k_ ≠ (.slice (some ad362) t359.length co6 : Value).ownBlock ∧ some k_ ≠ (.slice (some ad366) t363.length co12 : Value).ownBlock ∧ some k_ ≠ (.slice Ao51 x370003_3.length co51 : Value).ownBlock ∧ k_ ≠ gb369)) (by (with_reducible repeat (first | apply Kd.N_alloc | apply Kd.N_drewN | apply Kd.N_drew)); exact HO_1.out) hg hat); have n1_ := Aside0.mk (Kd.R_over' (by (with_reducible repeat (first | apply Kd.R_alloc | apply Kd.R_drewN | apply Kd.R_drew)); exact HO_2.out) (Kd.N_typed (by (with_reducible repeat (first | apply Kd.N_alloc | apply Kd.N_drewN | apply Kd.N_drew)); exact HO388.out)) (by decide) hg); have n2_ := Aside0.mk (Kd.R_over' (by (with_reducible repeat (first | apply Kd.R_alloc | apply Kd.R_drewN | apply Kd.R_drew)); exact HO_4.out) (Kd.N_typed (by (with_reducible repeat (first | apply Kd.N_alloc | apply Kd.N_drewN | apply Kd.N_drew)); exact HO388.out)) (by decide) hg); have n3_ := Aside0.mk (blk_grown (g := gb369) (o := .cells #[.string (rdOf ByteArray.empty t363 x5_2), .int .i64 ((rd_T76 t359 x3_1).f1), .int .i64 ((rd_T76 t359 x3_1).f2), .slice Ao51 x370003_3.length co51] 24 (0, 0)) (by (with_reducible repeat (first | refine blk_drewN ?_ _ | refine blk_drew ?_ | refine blk_alloc ?_ _)); exact BK369.out) hg (Kd.N_away HO388.out (fun _ hk => hk.2.2.2.2))); have n4_ := Aside0.mk (Kd.V_afterv (ok := (fun k_ => (w.heap.size ≤ k_) ∧ some k_ ≠ (.slice (some ad376) x1_2.length co44 : Value).ownBlock ∧ some k_ ≠ (.slice (some ad362) t359.length co6 : Value).ownBlock ∧ some k_ ≠ (.slice (some ad366) t363.length co12 : Value).ownBlock ∧ some k_ ≠ (.slice Ao51 x370003_3.length co51 : Value).ownBlock ∧ k_ ≠ gb369)) (by (with_reducible repeat (first | apply Kd.V_alloc | apply Kd.V_drewN | apply Kd.V_drew)); exact HL376_3.out) hg hat); have n5_ := Aside0.mk (Kd.V_afterv (ok := (fun k_ => (w.heap.size ≤ k_) ∧ some k_ ≠ (.slice (some ad362) t359.length co6 : Value).ownBlock ∧ some k_ ≠ (.slice (some ad366) t363.length co12 : Value).ownBlock ∧ some k_ ≠ (.slice Ao51 x370003_3.length co51 : Value).ownBlock ∧ k_ ≠ gb369)) (by (with_reducible repeat (first | apply Kd.V_alloc | apply Kd.V_drewN | apply Kd.V_drew)); exact HO385.out) hg hat); have n6_ := Aside0.mk (hb); have n7_ := Aside0.mk (ho); clear HO_1; clear HO_2; clear HO_4; clear BK369; clear HL376_3; clear HO385; clear HB; clear HO388; clear HO_370003; have HO_1 := n0_; have HO_2 := n1_; have HO_4 := n2_; have BK369 := n3_; have HL376_3 := n4_; have HO385 := n5_; have HB := n6_; have HO391 := n7_; clear n0_ n1_ n2_ n3_ n4_ n5_ n6_ n7_; clear ho hb hg hat; have q52 : (x8_4 : Int) ≤ ((x1_2.length : Int) : Int) := of_decide_eq_true (by first | (with_reducible assumption) | assumption); obtain ⟨i052, hi052, _, hsz52, _⟩ := info_parts info24; have hroom52 : x1_2.length ≤ co44 := (Kd.N_reads' HO_1.out).2.1; have hC52 : Kd.F k24 _ _ (some ad376) x1_2.length x1_2 := (Kd.V_at (base := w.heap.size) (Kd.N_V HO_1.out)).2.2; have q052 : (0 : Int) ≤ (x8_4 : Int) := of_decide_eq_true (by first | (with_reducible assumption) | assumption); have hcut52 := cut_from (P := Tryz.prog) 60 24 .i64 Tryz.underlying60 hi052 4 hsz52 (some ad376) x1_2.length co44 x8_4 q052 q52; have hr52 := Kd.F_cut (m := (x8_4 : Int).toNat) (c := co44) hC52 (by omega) hroom52; obtain ⟨A52, hA52⟩ : ∃ A1, A1 = (if co44 = (x8_4 : Int).toNat then (some ad376) else ((some ad376) : Option Addr).map (·.add ((x8_4 : Int).toNat * 4))) := ⟨_, rfl⟩; obtain ⟨c52, hc52⟩ : ∃ c1, c1 = co44 - (x8_4 : Int).toNat := ⟨_, rfl⟩; have hy52 : y392.length = x1_2.length - (x8_4 : Int).toNat := (by rw [Ny392.out, List.length_drop] <;> omega); rw [show (x1_2).drop (x8_4 : Int).toNat = y392 from Ny392.out.symm] at hr52; replace hr52 : Kd.F k24 _ _ A52 y392.length y392 := (by rw [hA52]; exact hr52); rw [← hy52, ← hA52, ← hc52] at hcut52; have HO396 := Aside0.mk (show Kd.V k24 24 _ w.heap.size _ (.slice A52 y392.length c52) y392 from Kd.V_mk (by rw [hy52, hc52]; exact Nat.sub_le_sub_right hroom52 _) hr52); have HC396 := Aside0.mk (show y392.length ≤ c52 from by rw [hy52, hc52]; exact Nat.sub_le_sub_right hroom52 _); clear hr52 hC52 hroom52 hi052 hsz52 hc52; have KY52 := Aside0.mk hy52; have KA52 := Aside0.mk hA52; clear hy52 hA52; replace q52 := eq_true q52) | ((with_reducible refine gate_builtin (b := .append) (xs := #[.tmp 93, .tmp 96]) rfl ?_); at_builtin; refine Kd.N_append_rows k24 (w0 := w) w.heap.size rfl (.tmp 93) (.tmp 96) 60 24 (.agg #[(.string ⟨#[]⟩), (.int .i64 0), (.int .i64 0), (.slice none 0 0)]) 56 rfl Tryz.underlying60 info24 rfl (by decide) (by omega) v390 y389 y392 _ _ _ (fun k_ => (w.heap.size ≤ k_) ∧ some k_ ≠ (.slice (some ad362) t359.length co6 : Value).ownBlock ∧ some k_ ≠ (.slice (some ad366) t363.length co12 : Value).ownBlock ∧ k_ ≠ gb369) (fun k_ => ((fun k_ => (w.heap.size ≤ k_) ∧ some k_ ≠ (.slice (some ad362) t359.length co6 : Value).ownBlock ∧ some k_ ≠ (.slice (some ad366) t363.length co12 : Value).ownBlock ∧ k_ ≠ gb369)) k_ ∧ some k_ ≠ (v390 : Value).ownBlock) rfl rfl ?aO ?aR (fun _ hk => hk) ?aF ?aB ?aS ?aL ?_; (case aR => exact (by skip; exact Kd.V_F (Kd.V_mono (ok' := (fun k_ => ((fun k_ => (w.heap.size ≤ k_) ∧ some k_ ≠ (.slice (some ad362) t359.length co6 : Value).ownBlock ∧ some k_ ≠ (.slice (some ad366) t363.length co12 : Value).ownBlock ∧ k_ ≠ gb369)) k_ ∧ some k_ ≠ (v390 : Value).ownBlock)) (HO396.out) (fun k_ hk => ⟨⟨hk.1.1, ⟨hk.1.2.1, ⟨hk.1.2.2.1, hk.1.2.2.2.2⟩⟩⟩, hk.2⟩)))); (case aB => exact (by repeat (first | (with_reducible first | exact HB.out | apply below_alloc | apply pw_below_drewN | apply below_drew1 | refine below_set ?_ GE369.out) | exact HB.out))); (case aF => exact (fun k_ hk => ⟨(Nat.le_trans (below_size (by repeat (first | (with_reducible first | exact HB.out | apply below_alloc | apply pw_below_drewN | apply below_drew1 | refine below_set ?_ GE369.out) | exact HB.out))) hk), Kd.fresh' (Kd.R_lt (by (with_reducible repeat (first | apply Kd.R_alloc | apply Kd.R_drewN | apply Kd.R_drew)); exact HO_2.out)) k_ hk, Kd.fresh' (Kd.R_lt (by (with_reducible repeat (first | apply Kd.R_alloc | apply Kd.R_drewN | apply Kd.R_drew)); exact HO_4.out)) k_ hk, Kd.freshB (g := gb369) (o := .cells #[.string (rdOf ByteArray.empty t363 x5_2), .int .i64 ((rd_T76 t359 x3_1).f1), .int .i64 ((rd_T76 t359 x3_1).f2), .slice Ao51 x370003_3.length co51] 24 (0, 0)) (by (with_reducible repeat (first | refine blk_drewN ?_ _ | refine blk_drew ?_ | refine blk_alloc ?_ _)); exact BK369.out) k_ hk⟩)); (case aO => exact (by (with_reducible repeat (first | apply Kd.N_alloc | apply Kd.N_drewN | apply Kd.N_drew)); exact HO391.out)); (case aS => exact (below_size (by repeat (first | (with_reducible first | exact HB.out | apply below_alloc | apply pw_below_drewN | apply below_drew1 | refine below_set ?_ GE369.out) | exact HB.out)))); (case aL => have := LMc42.out; omega); intro v398 w53 ho hb hg hat; rw [← Ny397.out] at ho; have n0_ := Aside0.mk (Kd.N_afterv (ok := (fun k_ => (w.heap.size ≤ k_) ∧ some k_ ≠ (.slice (some ad362) t359.length co6 : Value).ownBlock ∧ some k_ ≠ (.slice (some ad366) t363.length co12 : Value).ownBlock ∧ k_ ≠ gb369)) (by (with_reducible repeat (first | apply Kd.N_alloc | apply Kd.N_drewN | apply Kd.N_drew)); exact Kd.N_mono HO_1.out (fun _ hk => ⟨⟨hk.1.1, ⟨hk.1.2.1, ⟨hk.1.2.2.1, hk.1.2.2.2.2⟩⟩⟩, hk.2⟩)) hg hat); have n1_ := Aside0.mk (Kd.R_over' (by (with_reducible repeat (first | apply Kd.R_alloc | apply Kd.R_drewN | apply Kd.R_drew)); exact HO_2.out) (Kd.N_typed (by (with_reducible repeat (first | apply Kd.N_alloc | apply Kd.N_drewN | apply Kd.N_drew)); exact HO391.out)) (by decide) hg); have n2_ := Aside0.mk (Kd.R_over' (by (with_reducible repeat (first | apply Kd.R_alloc | apply Kd.R_drewN | apply Kd.R_drew)); exact HO_4.out) (Kd.N_typed (by (with_reducible repeat (first | apply Kd.N_alloc | apply Kd.N_drewN | apply Kd.N_drew)); exact HO391.out)) (by decide) hg); have n3_ := Aside0.mk (blk_grown (g := gb369) (o := .cells #[.string (rdOf ByteArray.empty t363 x5_2), .int .i64 ((rd_T76 t359 x3_1).f1), .int .i64 ((rd_T76 t359 x3_1).f2), .slice Ao51 x370003_3.length co51] 24 (0, 0)) (by (with_reducible repeat (first | refine blk_drewN ?_ _ | refine blk_drew ?_ | refine blk_alloc ?_ _)); exact BK369.out) hg (Kd.N_away HO391.out (fun _ hk => hk.2.2.2))); have n4_ := Aside0.mk (Kd.V_afterv (ok := (fun k_ => (w.heap.size ≤ k_) ∧ some k_ ≠ (.slice (some ad376) x1_2.length co44 : Value).ownBlock ∧ some k_ ≠ (.slice (some ad362) t359.length co6 : Value).ownBlock ∧ some k_ ≠ (.slice (some ad366) t363.length co12 : Value).ownBlock ∧ k_ ≠ gb369)) (by (with_reducible repeat (first | apply Kd.V_alloc | apply Kd.V_drewN | apply Kd.V_drew)); exact Kd.V_mono HL376_3.out (fun _ hk => ⟨⟨hk.1.1, ⟨hk.1.2.1, ⟨hk.1.2.2.1, ⟨hk.1.2.2.2.1, hk.1.2.2.2.2.2⟩⟩⟩⟩, hk.2⟩)) hg hat); have n5_ := Aside0.mk (Kd.V_afterv (ok := (fun k_ => (w.heap.size ≤ k_) ∧ some k_ ≠ (.slice (some ad362) t359.length co6 : Value).ownBlock ∧ some k_ ≠ (.slice (some ad366) t363.length co12 : Value).ownBlock ∧ k_ ≠ gb369)) (by (with_reducible repeat (first | apply Kd.V_alloc | apply Kd.V_drewN | apply Kd.V_drew)); exact Kd.V_mono HO385.out (fun _ hk => ⟨⟨hk.1.1, ⟨hk.1.2.1, ⟨hk.1.2.2.1, hk.1.2.2.2.2⟩⟩⟩, hk.2⟩)) hg hat); have n6_ := Aside0.mk (Kd.V_afterv (ok := (fun k_ => (w.heap.size ≤ k_) ∧ some k_ ≠ (.slice (some ad362) t359.length co6 : Value).ownBlock ∧ some k_ ≠ (.slice (some ad366) t363.length co12 : Value).ownBlock ∧ k_ ≠ gb369)) (by (with_reducible repeat (first | apply Kd.V_alloc | apply Kd.V_drewN | apply Kd.V_drew)); exact Kd.V_mono HO396.out (fun _ hk => ⟨⟨hk.1.1, ⟨hk.1.2.1, ⟨hk.1.2.2.1, hk.1.2.2.2.2⟩⟩⟩, hk.2⟩)) hg hat); have n7_ := Aside0.mk (hb); have n8_ := Aside0.mk (ho); clear HO_1; clear HO_2; clear HO_4; clear BK369; clear HL376_3; clear HO385; clear HO396; clear HB; clear HO391; have HO_1 := n0_; have HO_2 := n1_; have HO_4 := n2_; have BK369 := n3_; have HL376_3 := n4_; have HO385 := n5_; have HO396 := n6_; have HB := n7_; have HO399 := n8_; clear n0_ n1_ n2_ n3_ n4_ n5_ n6_ n7_ n8_; clear ho hb hg hat))
                         go_roundg k4
                         case measure => have := HK1.out; have := HK2.out; have := HK3.out; have := HK4.out; omega
                         case rel => exact ⟨(y397), (wrap64 (x5_2 + 1)), (rflS), H', ⟨by have := HK1.out; have := HK2.out; have := HK3.out; have := HK4.out; omega⟩, ⟨by (with_reducible repeat (first | apply Kd.N_alloc | apply Kd.N_drewN | apply Kd.N_drew)); exact Kd.N_mono HO399.out (fun _ hk => ⟨hk.1, ⟨hk.2.1, hk.2.2.1⟩⟩)⟩, ⟨by (with_reducible repeat (first | apply Kd.R_alloc | apply Kd.R_drewN | apply Kd.R_drew)); exact HO_2.out⟩, ⟨by (with_reducible repeat (first | apply Kd.R_alloc | apply Kd.R_drewN | apply Kd.R_drew)); exact HO_4.out⟩, ⟨by repeat (first | (with_reducible first | exact HB.out | apply below_alloc | apply pw_below_drewN | apply below_drew1 | refine below_set ?_ GE369.out) | exact HB.out)⟩⟩
                        ·rw [if_neg c42] at H
                         exact absurd H (by simp)
                       ·rw [if_neg c39] at H
                        exact absurd H (by simp)
                      ·rw [if_neg c38] at H
                       exact absurd H (by simp)
                     ·rw [if_neg c37] at H
                      exact absurd H (by simp)
                   ·rw [if_neg c31] at H
                    exact absurd H (by simp)
                  ·rw [if_neg c30] at H
                   have c30b0 : decide (x8_4 < (x1_2.length : Int)) = false := decide_eq_false c30
                   clear c30
                   obtain ⟨y400, hy400⟩ : ∃ y_ : List (S24), y_ = (([] : List (S24))) := ⟨_, rfl⟩
                   replace H : (if 0 ≤ x8_4 then (if x8_4 ≤ (x1_2.length : Int) then ((some (x1_2.take (x8_4 : Int).toNat : List (S24))).bind fun y403 => (if y400.length + y403.length < 2513169434916 then ((some (y400 ++ y403 : List (S24))).bind fun y408 => (if y408.length < 2513169434916 then ((some (y408 ++ [(⟨(rdOf ByteArray.empty t363 x5_2), ((rd_T76 t359 x3_1).f1), ((rd_T76 t359 x3_1).f2), x370003_3⟩ : S24)] : List (S24))).bind fun y411 => ((some (x1_2.drop (x8_4 : Int).toNat : List (S24))).bind fun y414 => (if y411.length + y414.length < 2513169434916 then (foolscapref09_All.l1 k4 (y411 ++ y414) t359 x3_1 t363 (wrap64 (x5_2 + 1))) else (none)))) else (none))) else (none))) else (none)) else (none)) = some r := by first | (rw [hy400]; with_reducible exact H) | (have H2_ := (Option.bind_some _ _).symm.trans H; rw [hy400]; with_reducible exact H2_) | (have H2_ := (Option.bind_some _ _).symm.trans H; with_reducible exact H2_) | with_reducible exact H | (rw [hy400]; exact H) | exact H
                   have Ny400 := Aside0.mk hy400
                   clear hy400
                   by_cases c54 : 0 ≤ x8_4
                   ·rw [if_pos c54] at H
                    have c54b0 := eq_true c54
                    have c54b1 : decide (0 ≤ x8_4) = true := decide_eq_true c54
                    clear c54
                    by_cases c55 : x8_4 ≤ (x1_2.length : Int)
                    ·rw [if_pos c55] at H
                     have c55b0 := eq_true c55
                     have c55b1 : decide (x8_4 ≤ (x1_2.length : Int)) = true := decide_eq_true c55
                     clear c55
                     obtain ⟨y403, hy403⟩ : ∃ y_ : List (S24), y_ = (x1_2.take (x8_4 : Int).toNat) := ⟨_, rfl⟩
                     replace H : (if y400.length + y403.length < 2513169434916 then ((some (y400 ++ y403 : List (S24))).bind fun y408 => (if y408.length < 2513169434916 then ((some (y408 ++ [(⟨(rdOf ByteArray.empty t363 x5_2), ((rd_T76 t359 x3_1).f1), ((rd_T76 t359 x3_1).f2), x370003_3⟩ : S24)] : List (S24))).bind fun y411 => ((some (x1_2.drop (x8_4 : Int).toNat : List (S24))).bind fun y414 => (if y411.length + y414.length < 2513169434916 then (foolscapref09_All.l1 k4 (y411 ++ y414) t359 x3_1 t363 (wrap64 (x5_2 + 1))) else (none)))) else (none))) else (none)) = some r := by first | (rw [hy403]; with_reducible exact H) | (have H2_ := (Option.bind_some _ _).symm.trans H; rw [hy403]; with_reducible exact H2_) | (have H2_ := (Option.bind_some _ _).symm.trans H; with_reducible exact H2_) | with_reducible exact H | (rw [hy403]; exact H) | exact H
                     have Ny403 := Aside0.mk hy403
                     clear hy403
                     by_cases c56 : y400.length + y403.length < 2513169434916
                     ·rw [if_pos c56] at H
                      have LMc56 := Aside0.mk c56
                      clear c56
                      obtain ⟨y408, hy408⟩ : ∃ y_ : List (S24), y_ = (y400 ++ y403) := ⟨_, rfl⟩
                      replace H : (if y408.length < 2513169434916 then ((some (y408 ++ [(⟨(rdOf ByteArray.empty t363 x5_2), ((rd_T76 t359 x3_1).f1), ((rd_T76 t359 x3_1).f2), x370003_3⟩ : S24)] : List (S24))).bind fun y411 => ((some (x1_2.drop (x8_4 : Int).toNat : List (S24))).bind fun y414 => (if y411.length + y414.length < 2513169434916 then (foolscapref09_All.l1 k4 (y411 ++ y414) t359 x3_1 t363 (wrap64 (x5_2 + 1))) else (none)))) else (none)) = some r := by first | (rw [hy408]; with_reducible exact H) | (have H2_ := (Option.bind_some _ _).symm.trans H; rw [hy408]; with_reducible exact H2_) | (have H2_ := (Option.bind_some _ _).symm.trans H; with_reducible exact H2_) | with_reducible exact H | (rw [hy408]; exact H) | exact H
                      have Ny408 := Aside0.mk hy408
                      clear hy408
                      by_cases c57 : y408.length < 2513169434916
                      ·rw [if_pos c57] at H
                       have LMc57 := Aside0.mk c57
                       clear c57
                       obtain ⟨y411, hy411⟩ : ∃ y_ : List (S24), y_ = (y408 ++ [(⟨(rdOf ByteArray.empty t363 x5_2), ((rd_T76 t359 x3_1).f1), ((rd_T76 t359 x3_1).f2), x370003_3⟩ : S24)]) := ⟨_, rfl⟩
                       replace H : ((some (x1_2.drop (x8_4 : Int).toNat : List (S24))).bind fun y414 => (if y411.length + y414.length < 2513169434916 then (foolscapref09_All.l1 k4 (y411 ++ y414) t359 x3_1 t363 (wrap64 (x5_2 + 1))) else (none))) = some r := by first | (rw [hy411]; with_reducible exact H) | (have H2_ := (Option.bind_some _ _).symm.trans H; rw [hy411]; with_reducible exact H2_) | (have H2_ := (Option.bind_some _ _).symm.trans H; with_reducible exact H2_) | with_reducible exact H | (rw [hy411]; exact H) | exact H
                       have Ny411 := Aside0.mk hy411
                       clear hy411
                       have c58b0 := eq_true (of_decide_eq_true (by first | (with_reducible assumption) | assumption) : 0 ≤ x8_4)
                       have c59b0 := eq_true (of_decide_eq_true (by first | (with_reducible assumption) | assumption) : x8_4 ≤ (x1_2.length : Int))
                       obtain ⟨y414, hy414⟩ : ∃ y_ : List (S24), y_ = (x1_2.drop (x8_4 : Int).toNat) := ⟨_, rfl⟩
                       replace H : (if y411.length + y414.length < 2513169434916 then (foolscapref09_All.l1 k4 (y411 ++ y414) t359 x3_1 t363 (wrap64 (x5_2 + 1))) else (none)) = some r := by first | (rw [hy414]; with_reducible exact H) | (have H2_ := (Option.bind_some _ _).symm.trans H; rw [hy414]; with_reducible exact H2_) | (have H2_ := (Option.bind_some _ _).symm.trans H; with_reducible exact H2_) | with_reducible exact H | (rw [hy414]; exact H) | exact H
                       have Ny414 := Aside0.mk hy414
                       clear hy414
                       by_cases c60 : y411.length + y414.length < 2513169434916
                       ·rw [if_pos c60] at H
                        have LMc60 := Aside0.mk c60
                        clear c60
                        obtain ⟨y419, hy419⟩ : ∃ y_ : List (S24), y_ = (y411 ++ y414) := ⟨_, rfl⟩
                        replace H : (foolscapref09_All.l1 k4 y419 t359 x3_1 t363 (wrap64 (x5_2 + 1))) = some r := by first | (rw [hy419]; with_reducible exact H) | (have H2_ := (Option.bind_some _ _).symm.trans H; rw [hy419]; with_reducible exact H2_) | (have H2_ := (Option.bind_some _ _).symm.trans H; with_reducible exact H2_) | with_reducible exact H | (rw [hy419]; exact H) | exact H
                        have Ny419 := Aside0.mk hy419
                        clear hy419
                        have H' := Aside0.mk H
                        clear H
                        try go_wp2
                        have n0_ := Aside0.mk (Kd.N_drew HO_1.out)
                        have n1_ := Aside0.mk (Kd.R_drew HO_2.out)
                        have n2_ := Aside0.mk (Kd.R_drew HO_4.out)
                        have n3_ := Aside0.mk (Kd.R_drew HO_370003.out)
                        have n4_ := Aside0.mk (blk_drew BK369.out)
                        have n5_ := Aside0.mk (below_drew1 HB.out)
                        clear HO_1
                        clear HO_2
                        clear HO_4
                        clear HO_370003
                        clear BK369
                        clear HB
                        have HO_1 := n0_
                        have HO_2 := n1_
                        have HO_4 := n2_
                        have HO_370003 := n3_
                        have BK369 := n4_
                        have HB := n5_
                        clear n0_ n1_ n2_ n3_ n4_ n5_
                        obtain ⟨Ao62, co62, eo62⟩ := Kd.N_slice HO_1.out
                        (first | subst eo62 | (injection eo62 with f1_ f2_ f3_; have f4_ := f1_.symm; have f5_ := f3_.symm; clear f1_ f2_ f3_; subst f4_; subst f5_))
                        refine start_ (n := 15) (S := fun w' => True) (ds := []) (Array.replicate 15 false) (by kernel_rfl) rfl rfl trivial (fun hHeld => ?_); refine with_tabW foolscapref09_All.tab16 foolscapref09_All.bits16 (fun HT_ HW_ => ?_)
                        generalize wr.drew = w61 at HO_1 HO_2 HO_4 HO_370003 BK369 HB hHeld ⊢
                        refine pure_ (i := 0) (N := some 67) (v := ?_) (a' := ?_) #[true, false, false, false, false, false, false, false, false, false, false, false, false, false, false] rfl rfl (any_of HT_.out (by kernel_rfl)) (fun _ _ _ h => h) (Or.inl ⟨by rfl, ?_⟩) ?_ ?_
                        rotate_left
                        ·intro w'
                         go_simp
                         with_reducible rfl
                        rotate_left
                        ·simp only [Act.put, List.setIfInBounds_toArray, List.set_cons_zero, List.set_cons_succ, i64_w, i32_w]
                         rfl
                        refine pure_ (i := 1) (N := some 68) (v := ?_) (a' := ?_) #[true, true, false, false, false, false, false, false, false, false, false, false, false, false, false] rfl rfl (any_of HT_.out (by kernel_rfl)) (fun _ _ _ h => h) (Or.inl ⟨by rfl, ?_⟩) ?_ ?_
                        rotate_left
                        ·intro w'
                         go_simp
                         with_reducible rfl
                        rotate_left
                        ·simp only [Act.put, List.setIfInBounds_toArray, List.set_cons_zero, List.set_cons_succ, i64_w, i32_w]
                         rfl
                        refine pure_ (i := 2) (N := some 69) (v := ?_) (a' := ?_) #[true, true, true, false, false, false, false, false, false, false, false, false, false, false, false] rfl rfl (any_of HT_.out (by kernel_rfl)) (fun _ _ _ h => h) (Or.inl ⟨by rfl, ?_⟩) ?_ ?_
                        rotate_left
                        ·intro w'
                         go_simp
                         with_reducible rfl
                        rotate_left
                        ·simp only [Act.put, List.setIfInBounds_toArray, List.set_cons_zero, List.set_cons_succ, i64_w, i32_w]
                         rfl
                        refine pure_ (i := 3) (N := some 70) (v := ?_) (a' := ?_) #[true, true, true, true, false, false, false, false, false, false, false, false, false, false, false] rfl rfl (any_of HT_.out (by kernel_rfl)) (fun _ _ _ h => h) (Or.inl ⟨by rfl, ?_⟩) ?_ ?_
                        rotate_left
                        ·intro w'
                         go_simp
                         with_reducible rfl
                        rotate_left
                        ·simp only [Act.put, List.setIfInBounds_toArray, List.set_cons_zero, List.set_cons_succ, i64_w, i32_w]
                         rfl
                        refine pure_ (i := 4) (N := some 71) (v := ?_) (a' := ?_) #[true, true, true, true, true, false, false, false, false, false, false, false, false, false, false] rfl rfl (any_of HT_.out (by kernel_rfl)) (fun _ _ _ h => h) (Or.inl ⟨by rfl, ?_⟩) ?_ ?_
                        rotate_left
                        ·intro w'
                         go_simp
                         with_reducible rfl
                        rotate_left
                        ·simp only [Act.put, List.setIfInBounds_toArray, List.set_cons_zero, List.set_cons_succ, i64_w, i32_w]
                         rfl
                        refine pure_ (i := 5) (N := some 72) (v := undef) (a' := ?_) #[true, true, true, true, true, true, false, false, false, false, false, false, false, false, false] rfl rfl (any_of HT_.out (by kernel_rfl)) (fun _ _ _ h => h) (Or.inr ⟨by rfl, rfl⟩) ?_ ?_
                        rotate_left
                        ·simp only [Act.put, List.setIfInBounds_toArray, List.set_cons_zero, List.set_cons_succ, i64_w, i32_w]
                         rfl
                        refine pure_ (i := 6) (N := some 73) (v := undef) (a' := ?_) #[true, true, true, true, true, true, true, false, false, false, false, false, false, false, false] rfl rfl (any_of HT_.out (by kernel_rfl)) (fun _ _ _ h => h) (Or.inr ⟨by rfl, rfl⟩) ?_ ?_
                        rotate_left
                        ·simp only [Act.put, List.setIfInBounds_toArray, List.set_cons_zero, List.set_cons_succ, i64_w, i32_w]
                         rfl
                        refine pure_ (i := 7) (N := some 74) (v := undef) (a' := ?_) #[true, true, true, true, true, true, true, true, false, false, false, false, false, false, false] rfl rfl (any_of HT_.out (by kernel_rfl)) (fun _ _ _ h => h) (Or.inr ⟨by rfl, rfl⟩) ?_ ?_
                        rotate_left
                        ·simp only [Act.put, List.setIfInBounds_toArray, List.set_cons_zero, List.set_cons_succ, i64_w, i32_w]
                         rfl
                        refine pure_ (i := 8) (N := some 75) (v := undef) (a' := ?_) #[true, true, true, true, true, true, true, true, true, false, false, false, false, false, false] rfl rfl (any_of HT_.out (by kernel_rfl)) (fun _ _ _ h => h) (Or.inr ⟨by rfl, rfl⟩) ?_ ?_
                        rotate_left
                        ·simp only [Act.put, List.setIfInBounds_toArray, List.set_cons_zero, List.set_cons_succ, i64_w, i32_w]
                         rfl
                        refine pure_ (i := 9) (N := some 76) (v := undef) (a' := ?_) #[true, true, true, true, true, true, true, true, true, true, false, false, false, false, false] rfl rfl (any_of HT_.out (by kernel_rfl)) (fun _ _ _ h => h) (Or.inr ⟨by rfl, rfl⟩) ?_ ?_
                        rotate_left
                        ·simp only [Act.put, List.setIfInBounds_toArray, List.set_cons_zero, List.set_cons_succ, i64_w, i32_w]
                         rfl
                        refine pure_ (i := 10) (N := some 77) (v := undef) (a' := ?_) #[true, true, true, true, true, true, true, true, true, true, true, false, false, false, false] rfl rfl (any_of HT_.out (by kernel_rfl)) (fun _ _ _ h => h) (Or.inr ⟨by rfl, rfl⟩) ?_ ?_
                        rotate_left
                        ·simp only [Act.put, List.setIfInBounds_toArray, List.set_cons_zero, List.set_cons_succ, i64_w, i32_w]
                         rfl
                        refine pure_ (i := 11) (N := some 78) (v := undef) (a' := ?_) #[true, true, true, true, true, true, true, true, true, true, true, true, false, false, false] rfl rfl (any_of HT_.out (by kernel_rfl)) (fun _ _ _ h => h) (Or.inr ⟨by rfl, rfl⟩) ?_ ?_
                        rotate_left
                        ·simp only [Act.put, List.setIfInBounds_toArray, List.set_cons_zero, List.set_cons_succ, i64_w, i32_w]
                         rfl
                        refine pure_ (i := 12) (N := some 79) (v := undef) (a' := ?_) #[true, true, true, true, true, true, true, true, true, true, true, true, true, false, false] rfl rfl (any_of HT_.out (by kernel_rfl)) (fun _ _ _ h => h) (Or.inr ⟨by rfl, rfl⟩) ?_ ?_
                        rotate_left
                        ·simp only [Act.put, List.setIfInBounds_toArray, List.set_cons_zero, List.set_cons_succ, i64_w, i32_w]
                         rfl
                        refine pure_ (i := 13) (N := some 80) (v := undef) (a' := ?_) #[true, true, true, true, true, true, true, true, true, true, true, true, true, true, false] rfl rfl (any_of HT_.out (by kernel_rfl)) (fun _ _ _ h => h) (Or.inr ⟨by rfl, rfl⟩) ?_ ?_
                        rotate_left
                        ·simp only [Act.put, List.setIfInBounds_toArray, List.set_cons_zero, List.set_cons_succ, i64_w, i32_w]
                         rfl
                        refine pure_ (i := 14) (N := some 81) (v := ?_) (a' := ?_) #[true, true, true, true, true, true, true, true, true, true, true, true, true, true, true] rfl rfl (any_of HT_.out (by kernel_rfl)) (fun _ _ _ h => h) (Or.inl ⟨by rfl, ?_⟩) ?_ ?_
                        rotate_left
                        ·intro w'
                         go_simp
                         with_reducible rfl
                        rotate_left
                        ·simp only [Act.put, List.setIfInBounds_toArray, List.set_cons_zero, List.set_cons_succ, i64_w, i32_w]
                         rfl
                        refine done_ (done_of HT_.out (by kernel_rfl)) ?_
                        try go_wp2_with (first | ((with_reducible refine gate_dst (N := 84) rfl ?_); refine Kd.N_lit k24 _ 24 ?hg (N' := 84) ?hd (xs := ([] : List (S24))) (inner := []) (ok := (fun k_ => (w.heap.size ≤ k_) ∧ some k_ ≠ (.slice Ao62 x1_2.length co62 : Value).ownBlock ∧ some k_ ≠ (.slice (some ad362) t359.length co6 : Value).ownBlock ∧ some k_ ≠ (.slice (some ad366) t363.length co12 : Value).ownBlock ∧ some k_ ≠ (u370003 : Value).ownBlock ∧ k_ ≠ gb369)) (okp := (fun k_ => (w.heap.size ≤ k_) ∧ some k_ ≠ (.slice Ao62 x1_2.length co62 : Value).ownBlock ∧ some k_ ≠ (.slice (some ad362) t359.length co6 : Value).ownBlock ∧ some k_ ≠ (.slice (some ad366) t363.length co12 : Value).ownBlock ∧ some k_ ≠ (u370003 : Value).ownBlock ∧ k_ ≠ gb369)) ?hr ?hp (fun _ hk => hk) ((show ∀ k_, w61.heap.size ≤ k_ → (fun k_ => (w.heap.size ≤ k_) ∧ some k_ ≠ (.slice Ao62 x1_2.length co62 : Value).ownBlock ∧ some k_ ≠ (.slice (some ad362) t359.length co6 : Value).ownBlock ∧ some k_ ≠ (.slice (some ad366) t363.length co12 : Value).ownBlock ∧ some k_ ≠ (u370003 : Value).ownBlock ∧ k_ ≠ gb369) k_ from fun k_ hk => ⟨(Nat.le_trans (below_size (by repeat (first | (with_reducible first | exact HB.out | apply below_alloc | apply pw_below_drewN | apply below_drew1 | refine below_set ?_ GE369.out) | exact HB.out))) hk), Kd.fresh' (Kd.N_lt (by (with_reducible repeat (first | apply Kd.N_alloc | apply Kd.N_drewN | apply Kd.N_drew)); exact HO_1.out)) k_ hk, Kd.fresh' (Kd.R_lt (by (with_reducible repeat (first | apply Kd.R_alloc | apply Kd.R_drewN | apply Kd.R_drew)); exact HO_2.out)) k_ hk, Kd.fresh' (Kd.R_lt (by (with_reducible repeat (first | apply Kd.R_alloc | apply Kd.R_drewN | apply Kd.R_drew)); exact HO_4.out)) k_ hk, Kd.fresh' (Kd.R_lt (by (with_reducible repeat (first | apply Kd.R_alloc | apply Kd.R_drewN | apply Kd.R_drew)); exact HO_370003.out)) k_ hk, Kd.freshB (g := gb369) (o := .cells #[.string (rdOf ByteArray.empty t363 x5_2), .int .i64 ((rd_T76 t359 x3_1).f1), .int .i64 ((rd_T76 t359 x3_1).f2), u370003] 24 (0, 0)) (by (with_reducible repeat (first | refine blk_drewN ?_ _ | refine blk_drew ?_ | refine blk_alloc ?_ _)); exact BK369.out) k_ hk⟩) _ (Nat.le_refl _)) (Below.refl _ _) (Nat.le_refl _) (by simp) ?_; (case hd => rfl); (case hg => rfl); (case hr => first | (go_simp; done) | (go_simp; rfl)); (case hp => exact (Reps.none _ _)); intro v401 w63 ho64 hb hg_ hnew_; clear hg_ hnew_; (first | rw [← Ny400.out] at ho64 | (simp only [Int.reduceToNat] at ho64; rw [← Ny400.out] at ho64)); have n0_ := Aside0.mk (Kd.N_elder' (by (with_reducible repeat (first | apply Kd.N_alloc | apply Kd.N_drewN | apply Kd.N_drew)); exact HO_1.out) (Kd.N_base ho64) hb); have n1_ := Aside0.mk (Kd.R_below (by (with_reducible repeat (first | apply Kd.R_alloc | apply Kd.R_drewN | apply Kd.R_drew)); exact HO_2.out) hb); have n2_ := Aside0.mk (Kd.R_below (by (with_reducible repeat (first | apply Kd.R_alloc | apply Kd.R_drewN | apply Kd.R_drew)); exact HO_4.out) hb); have n3_ := Aside0.mk (Kd.R_below (by (with_reducible repeat (first | apply Kd.R_alloc | apply Kd.R_drewN | apply Kd.R_drew)); exact HO_370003.out) hb); have n4_ := Aside0.mk (Kd.N_lower ho64 (below_size (by repeat (first | (with_reducible first | exact HB.out | apply below_alloc | apply pw_below_drewN | apply below_drew1 | refine below_set ?_ GE369.out) | exact HB.out)))); have n5_ := Aside0.mk (blk_below (g := gb369) (o := .cells #[.string (rdOf ByteArray.empty t363 x5_2), .int .i64 ((rd_T76 t359 x3_1).f1), .int .i64 ((rd_T76 t359 x3_1).f2), u370003] 24 (0, 0)) (by (with_reducible repeat (first | refine blk_drewN ?_ _ | refine blk_drew ?_ | refine blk_alloc ?_ _)); exact BK369.out) hb); have n6_ := Aside0.mk (below_step (by repeat (first | (with_reducible first | exact HB.out | apply below_alloc | apply pw_below_drewN | apply below_drew1 | refine below_set ?_ GE369.out) | exact HB.out)) hb); clear HO_1; clear HO_2; clear HO_4; clear HO_370003; clear BK369; clear HB; have HO_1 := n0_; have HO_2 := n1_; have HO_4 := n2_; have HO_370003 := n3_; have HO402 := n4_; have BK369 := n5_; have HB := n6_; clear n0_ n1_ n2_ n3_ n4_ n5_ n6_; clear hb ho64; have q65 : (x8_4 : Int) ≤ ((x1_2.length : Int) : Int) := of_decide_eq_true (by first | (with_reducible assumption) | assumption); obtain ⟨i065, hi065, _, hsz65, _⟩ := info_parts info24; have hroom65 : x1_2.length ≤ co62 := (Kd.N_reads' HO_1.out).2.1; have hC65 : Kd.F k24 _ _ Ao62 x1_2.length x1_2 := (Kd.V_at (base := w.heap.size) (Kd.N_V HO_1.out)).2.2; have hcut65 := cut_to (P := Tryz.prog) 60 24 .i64 Tryz.underlying60 hi065 Ao62 x1_2.length co62 x8_4 (of_decide_eq_true (by first | (with_reducible assumption) | assumption)) q65 hroom65; have hr65 := Kd.F_take (m := (x8_4 : Int).toNat) hC65 (by omega); have hy65 : y403.length = (x8_4 : Int).toNat := (by rw [Ny403.out, List.length_take]; omega); rw [← Ny403.out] at hr65; rw [← hy65] at hcut65; have HO407 := Aside0.mk (show Kd.V k24 24 _ w.heap.size _ (.slice Ao62 y403.length co62) y403 from Kd.V_mk (by omega) hr65); have HC407 := Aside0.mk (show y403.length ≤ co62 from by omega); clear hr65 hC65 hroom65 hi065 hsz65; have KY65 := Aside0.mk hy65; clear hy65; replace q65 := eq_true q65) | ((with_reducible refine gate_builtin (b := .append) (xs := #[.tmp 84, .tmp 87]) rfl ?_); at_builtin; refine Kd.N_append_rows k24 (w0 := w) w.heap.size rfl (.tmp 84) (.tmp 87) 60 24 (.agg #[(.string ⟨#[]⟩), (.int .i64 0), (.int .i64 0), (.slice none 0 0)]) 56 rfl Tryz.underlying60 info24 rfl (by decide) (by omega) v401 y400 y403 _ _ _ (fun k_ => (w.heap.size ≤ k_) ∧ some k_ ≠ (.slice (some ad362) t359.length co6 : Value).ownBlock ∧ some k_ ≠ (.slice (some ad366) t363.length co12 : Value).ownBlock ∧ some k_ ≠ (u370003 : Value).ownBlock ∧ k_ ≠ gb369) (fun k_ => ((fun k_ => (w.heap.size ≤ k_) ∧ some k_ ≠ (.slice (some ad362) t359.length co6 : Value).ownBlock ∧ some k_ ≠ (.slice (some ad366) t363.length co12 : Value).ownBlock ∧ some k_ ≠ (u370003 : Value).ownBlock ∧ k_ ≠ gb369)) k_ ∧ some k_ ≠ (v401 : Value).ownBlock) rfl rfl ?aO ?aR (fun _ hk => hk) ?aF ?aB ?aS ?aL ?_; (case aR => exact (by skip; exact Kd.V_F (Kd.V_mono (ok' := (fun k_ => ((fun k_ => (w.heap.size ≤ k_) ∧ some k_ ≠ (.slice (some ad362) t359.length co6 : Value).ownBlock ∧ some k_ ≠ (.slice (some ad366) t363.length co12 : Value).ownBlock ∧ some k_ ≠ (u370003 : Value).ownBlock ∧ k_ ≠ gb369)) k_ ∧ some k_ ≠ (v401 : Value).ownBlock)) (HO407.out) (fun k_ hk => ⟨⟨hk.1.1, ⟨hk.1.2.1, ⟨hk.1.2.2.1, ⟨hk.1.2.2.2.1, hk.1.2.2.2.2⟩⟩⟩⟩, hk.2⟩)))); (case aB => exact (by repeat (first | (with_reducible first | exact HB.out | apply below_alloc | apply pw_below_drewN | apply below_drew1 | refine below_set ?_ GE369.out) | exact HB.out))); (case aF => exact (fun k_ hk => ⟨(Nat.le_trans (below_size (by repeat (first | (with_reducible first | exact HB.out | apply below_alloc | apply pw_below_drewN | apply below_drew1 | refine below_set ?_ GE369.out) | exact HB.out))) hk), Kd.fresh' (Kd.R_lt (by (with_reducible repeat (first | apply Kd.R_alloc | apply Kd.R_drewN | apply Kd.R_drew)); exact HO_2.out)) k_ hk, Kd.fresh' (Kd.R_lt (by (with_reducible repeat (first | apply Kd.R_alloc | apply Kd.R_drewN | apply Kd.R_drew)); exact HO_4.out)) k_ hk, Kd.fresh' (Kd.R_lt (by (with_reducible repeat (first | apply Kd.R_alloc | apply Kd.R_drewN | apply Kd.R_drew)); exact HO_370003.out)) k_ hk, Kd.freshB (g := gb369) (o := .cells #[.string (rdOf ByteArray.empty t363 x5_2), .int .i64 ((rd_T76 t359 x3_1).f1), .int .i64 ((rd_T76 t359 x3_1).f2), u370003] 24 (0, 0)) (by (with_reducible repeat (first | refine blk_drewN ?_ _ | refine blk_drew ?_ | refine blk_alloc ?_ _)); exact BK369.out) k_ hk⟩)); (case aO => exact (by (with_reducible repeat (first | apply Kd.N_alloc | apply Kd.N_drewN | apply Kd.N_drew)); exact Kd.N_mono HO402.out (fun _ hk => ⟨hk.1, ⟨hk.2.2.1, ⟨hk.2.2.2.1, ⟨hk.2.2.2.2.1, hk.2.2.2.2.2⟩⟩⟩⟩))); (case aS => exact (below_size (by repeat (first | (with_reducible first | exact HB.out | apply below_alloc | apply pw_below_drewN | apply below_drew1 | refine below_set ?_ GE369.out) | exact HB.out)))); (case aL => have := LMc56.out; omega); intro v409 w66 ho hb hg hat; rw [← Ny408.out] at ho; have n0_ := Aside0.mk (Kd.N_afterv (ok := (fun k_ => (w.heap.size ≤ k_) ∧ some k_ ≠ (.slice (some ad362) t359.length co6 : Value).ownBlock ∧ some k_ ≠ (.slice (some ad366) t363.length co12 : Value).ownBlock ∧ some k_ ≠ (u370003 : Value).ownBlock ∧ k_ ≠ gb369)) (by (with_reducible repeat (first | apply Kd.N_alloc | apply Kd.N_drewN | apply Kd.N_drew)); exact HO_1.out) hg hat); have n1_ := Aside0.mk (Kd.R_over' (by (with_reducible repeat (first | apply Kd.R_alloc | apply Kd.R_drewN | apply Kd.R_drew)); exact HO_2.out) (Kd.N_typed (by (with_reducible repeat (first | apply Kd.N_alloc | apply Kd.N_drewN | apply Kd.N_drew)); exact HO402.out)) (by decide) hg); have n2_ := Aside0.mk (Kd.R_over' (by (with_reducible repeat (first | apply Kd.R_alloc | apply Kd.R_drewN | apply Kd.R_drew)); exact HO_4.out) (Kd.N_typed (by (with_reducible repeat (first | apply Kd.N_alloc | apply Kd.N_drewN | apply Kd.N_drew)); exact HO402.out)) (by decide) hg); have n3_ := Aside0.mk (Kd.R_over' (by (with_reducible repeat (first | apply Kd.R_alloc | apply Kd.R_drewN | apply Kd.R_drew)); exact HO_370003.out) (Kd.N_typed (by (with_reducible repeat (first | apply Kd.N_alloc | apply Kd.N_drewN | apply Kd.N_drew)); exact HO402.out)) (by decide) hg); have n4_ := Aside0.mk (blk_grown (g := gb369) (o := .cells #[.string (rdOf ByteArray.empty t363 x5_2), .int .i64 ((rd_T76 t359 x3_1).f1), .int .i64 ((rd_T76 t359 x3_1).f2), u370003] 24 (0, 0)) (by (with_reducible repeat (first | refine blk_drewN ?_ _ | refine blk_drew ?_ | refine blk_alloc ?_ _)); exact BK369.out) hg (Kd.N_away HO402.out (fun _ hk => hk.2.2.2.2.2))); have n5_ := Aside0.mk (Kd.V_afterv (ok := (fun k_ => (w.heap.size ≤ k_) ∧ some k_ ≠ (.slice (some ad362) t359.length co6 : Value).ownBlock ∧ some k_ ≠ (.slice (some ad366) t363.length co12 : Value).ownBlock ∧ some k_ ≠ (u370003 : Value).ownBlock ∧ k_ ≠ gb369)) (by (with_reducible repeat (first | apply Kd.V_alloc | apply Kd.V_drewN | apply Kd.V_drew)); exact HO407.out) hg hat); have n6_ := Aside0.mk (hb); have n7_ := Aside0.mk (ho); clear HO_1; clear HO_2; clear HO_4; clear HO_370003; clear BK369; clear HO407; clear HB; clear HO402; have HO_1 := n0_; have HO_2 := n1_; have HO_4 := n2_; have HO_370003 := n3_; have BK369 := n4_; have HO407 := n5_; have HB := n6_; have HO410 := n7_; clear n0_ n1_ n2_ n3_ n4_ n5_ n6_ n7_; clear ho hb hg hat; have hcz67_0 : w66.cell? ⟨gb369, 0, none⟩ = some (.string (rdOf ByteArray.empty t363 x5_2)) := (blk_cell BK369.out 0).trans rfl; have hcz67_1 : w66.cell? ⟨gb369, 1, none⟩ = some (.int .i64 ((rd_T76 t359 x3_1).f1)) := (blk_cell BK369.out 1).trans rfl; have hcz67_2 : w66.cell? ⟨gb369, 2, none⟩ = some (.int .i64 ((rd_T76 t359 x3_1).f2)) := (blk_cell BK369.out 2).trans rfl; have hcz67_3 : w66.cell? ⟨gb369, 3, none⟩ = some (u370003) := (blk_cell BK369.out 3).trans rfl; have hfz67_0 := blk_frozen BK369.out 0; have hfz67_1 := blk_frozen BK369.out 1; have hfz67_2 := blk_frozen BK369.out 2; have hfz67_3 := blk_frozen BK369.out 3; obtain ⟨Ao69, co69, eo69⟩ := Kd.R_slice HO_370003.out; subst eo69) | ((with_reducible refine gate_builtin (b := .append) (xs := #[.tmp 89, .tmp 91]) rfl ?_); at_builtin; refine Kd.N_append k24 (w0 := w) w.heap.size rfl (.tmp 89) (.tmp 91) 60 24 (.agg #[(.string ⟨#[]⟩), (.int .i64 0), (.int .i64 0), (.slice none 0 0)]) 56 rfl Tryz.underlying60 info24 rfl (by decide) (by omega) v409 y408 (⟨(rdOf ByteArray.empty t363 x5_2), ((rd_T76 t359 x3_1).f1), ((rd_T76 t359 x3_1).f2), x370003_3⟩ : S24) [.string (rdOf ByteArray.empty t363 x5_2), .int .i64 ((rd_T76 t359 x3_1).f1), .int .i64 ((rd_T76 t359 x3_1).f2), .slice Ao69 x370003_3.length co69] (fun k_ => (w.heap.size ≤ k_) ∧ some k_ ≠ (.slice (some ad362) t359.length co6 : Value).ownBlock ∧ some k_ ≠ (.slice (some ad366) t363.length co12 : Value).ownBlock ∧ k_ ≠ gb369) (fun k_ => ((fun k_ => (w.heap.size ≤ k_) ∧ some k_ ≠ (.slice (some ad362) t359.length co6 : Value).ownBlock ∧ some k_ ≠ (.slice (some ad366) t363.length co12 : Value).ownBlock ∧ k_ ≠ gb369)) k_ ∧ some k_ ≠ (v409 : Value).ownBlock) rfl rfl ?aP (fun _ hk => hk) ?aF ?aO ?aB ?aS ?aL ?_; (case aP => exact (k24_mkF _ _ (⟨(rdOf ByteArray.empty t363 x5_2), ((rd_T76 t359 x3_1).f1), ((rd_T76 t359 x3_1).f2), x370003_3⟩ : S24) (Kd.R_reads' (Kd.R_mono (ok' := (fun k_ => ((fun k_ => (w.heap.size ≤ k_) ∧ some k_ ≠ (.slice (some ad362) t359.length co6 : Value).ownBlock ∧ some k_ ≠ (.slice (some ad366) t363.length co12 : Value).ownBlock ∧ k_ ≠ gb369)) k_ ∧ some k_ ≠ (v409 : Value).ownBlock)) (Kd.R_types (Kd.R_apart' (Kd.R_apart' (Kd.R_apart' (HO_370003.out) (Kd.R_typed HO_2.out) (by decide)) (Kd.R_typed HO_4.out) (by decide)) (Kd.N_typed HO410.out) (by decide)) BK369.out (by decide)) (fun k_ hk => ⟨⟨hk.1.1.1.1, ⟨hk.1.1.1.2, ⟨hk.1.1.2, hk.2⟩⟩⟩, hk.1.2⟩))).2.1 (Kd.R_F (Kd.R_mono (ok' := (fun k_ => ((fun k_ => (w.heap.size ≤ k_) ∧ some k_ ≠ (.slice (some ad362) t359.length co6 : Value).ownBlock ∧ some k_ ≠ (.slice (some ad366) t363.length co12 : Value).ownBlock ∧ k_ ≠ gb369)) k_ ∧ some k_ ≠ (v409 : Value).ownBlock)) (Kd.R_types (Kd.R_apart' (Kd.R_apart' (Kd.R_apart' (HO_370003.out) (Kd.R_typed HO_2.out) (by decide)) (Kd.R_typed HO_4.out) (by decide)) (Kd.N_typed HO410.out) (by decide)) BK369.out (by decide)) (fun k_ hk => ⟨⟨hk.1.1.1.1, ⟨hk.1.1.1.2, ⟨hk.1.1.2, hk.2⟩⟩⟩, hk.1.2⟩))))); (case aB => exact (by repeat (first | (with_reducible first | exact HB.out | apply below_alloc | apply pw_below_drewN | apply below_drew1 | refine below_set ?_ GE369.out) | exact HB.out))); (case aF => exact (fun k_ hk => ⟨(Nat.le_trans (below_size (by repeat (first | (with_reducible first | exact HB.out | apply below_alloc | apply pw_below_drewN | apply below_drew1 | refine below_set ?_ GE369.out) | exact HB.out))) hk), Kd.fresh' (Kd.R_lt (by (with_reducible repeat (first | apply Kd.R_alloc | apply Kd.R_drewN | apply Kd.R_drew)); exact HO_2.out)) k_ hk, Kd.fresh' (Kd.R_lt (by (with_reducible repeat (first | apply Kd.R_alloc | apply Kd.R_drewN | apply Kd.R_drew)); exact HO_4.out)) k_ hk, Kd.freshB (g := gb369) (o := .cells #[.string (rdOf ByteArray.empty t363 x5_2), .int .i64 ((rd_T76 t359 x3_1).f1), .int .i64 ((rd_T76 t359 x3_1).f2), .slice Ao69 x370003_3.length co69] 24 (0, 0)) (by (with_reducible repeat (first | refine blk_drewN ?_ _ | refine blk_drew ?_ | refine blk_alloc ?_ _)); exact BK369.out) k_ hk⟩)); (case aO => exact (by (with_reducible repeat (first | apply Kd.N_alloc | apply Kd.N_drewN | apply Kd.N_drew)); exact Kd.N_mono HO410.out (fun _ hk => ⟨hk.1, ⟨hk.2.1, ⟨hk.2.2.1, hk.2.2.2.2⟩⟩⟩))); (case aS => exact (below_size (by repeat (first | (with_reducible first | exact HB.out | apply below_alloc | apply pw_below_drewN | apply below_drew1 | refine below_set ?_ GE369.out) | exact HB.out)))); (case aL => have := LMc57.out; omega); intro v412 w68 ho hb hg hat; rw [← Ny411.out] at ho; have n0_ := Aside0.mk (Kd.N_afterv (ok := (fun k_ => (w.heap.size ≤ k_) ∧ some k_ ≠ (.slice (some ad362) t359.length co6 : Value).ownBlock ∧ some k_ ≠ (.slice (some ad366) t363.length co12 : Value).ownBlock ∧ some k_ ≠ (.slice Ao69 x370003_3.length co69 : Value).ownBlock ∧ k_ ≠ gb369)) (by (with_reducible repeat (first | apply Kd.N_alloc | apply Kd.N_drewN | apply Kd.N_drew)); exact HO_1.out) hg hat); have n1_ := Aside0.mk (Kd.R_over' (by (with_reducible repeat (first | apply Kd.R_alloc | apply Kd.R_drewN | apply Kd.R_drew)); exact HO_2.out) (Kd.N_typed (by (with_reducible repeat (first | apply Kd.N_alloc | apply Kd.N_drewN | apply Kd.N_drew)); exact HO410.out)) (by decide) hg); have n2_ := Aside0.mk (Kd.R_over' (by (with_reducible repeat (first | apply Kd.R_alloc | apply Kd.R_drewN | apply Kd.R_drew)); exact HO_4.out) (Kd.N_typed (by (with_reducible repeat (first | apply Kd.N_alloc | apply Kd.N_drewN | apply Kd.N_drew)); exact HO410.out)) (by decide) hg); have n3_ := Aside0.mk (blk_grown (g := gb369) (o := .cells #[.string (rdOf ByteArray.empty t363 x5_2), .int .i64 ((rd_T76 t359 x3_1).f1), .int .i64 ((rd_T76 t359 x3_1).f2), .slice Ao69 x370003_3.length co69] 24 (0, 0)) (by (with_reducible repeat (first | refine blk_drewN ?_ _ | refine blk_drew ?_ | refine blk_alloc ?_ _)); exact BK369.out) hg (Kd.N_away HO410.out (fun _ hk => hk.2.2.2.2))); have n4_ := Aside0.mk (Kd.V_afterv (ok := (fun k_ => (w.heap.size ≤ k_) ∧ some k_ ≠ (.slice (some ad362) t359.length co6 : Value).ownBlock ∧ some k_ ≠ (.slice (some ad366) t363.length co12 : Value).ownBlock ∧ some k_ ≠ (.slice Ao69 x370003_3.length co69 : Value).ownBlock ∧ k_ ≠ gb369)) (by (with_reducible repeat (first | apply Kd.V_alloc | apply Kd.V_drewN | apply Kd.V_drew)); exact HO407.out) hg hat); have n5_ := Aside0.mk (hb); have n6_ := Aside0.mk (ho); clear HO_1; clear HO_2; clear HO_4; clear BK369; clear HO407; clear HB; clear HO410; clear HO_370003; have HO_1 := n0_; have HO_2 := n1_; have HO_4 := n2_; have BK369 := n3_; have HO407 := n4_; have HB := n5_; have HO413 := n6_; clear n0_ n1_ n2_ n3_ n4_ n5_ n6_; clear ho hb hg hat; have q70 : (x8_4 : Int) ≤ ((x1_2.length : Int) : Int) := of_decide_eq_true (by first | (with_reducible assumption) | assumption); obtain ⟨i070, hi070, _, hsz70, _⟩ := info_parts info24; have hroom70 : x1_2.length ≤ co62 := (Kd.N_reads' HO_1.out).2.1; have hC70 : Kd.F k24 _ _ Ao62 x1_2.length x1_2 := (Kd.V_at (base := w.heap.size) (Kd.N_V HO_1.out)).2.2; have q070 : (0 : Int) ≤ (x8_4 : Int) := of_decide_eq_true (by first | (with_reducible assumption) | assumption); have hcut70 := cut_from (P := Tryz.prog) 60 24 .i64 Tryz.underlying60 hi070 4 hsz70 Ao62 x1_2.length co62 x8_4 q070 q70; have hr70 := Kd.F_cut (m := (x8_4 : Int).toNat) (c := co62) hC70 (by omega) hroom70; obtain ⟨A70, hA70⟩ : ∃ A1, A1 = (if co62 = (x8_4 : Int).toNat then Ao62 else (Ao62 : Option Addr).map (·.add ((x8_4 : Int).toNat * 4))) := ⟨_, rfl⟩; obtain ⟨c70, hc70⟩ : ∃ c1, c1 = co62 - (x8_4 : Int).toNat := ⟨_, rfl⟩; have hy70 : y414.length = x1_2.length - (x8_4 : Int).toNat := (by rw [Ny414.out, List.length_drop] <;> omega); rw [show (x1_2).drop (x8_4 : Int).toNat = y414 from Ny414.out.symm] at hr70; replace hr70 : Kd.F k24 _ _ A70 y414.length y414 := (by rw [hA70]; exact hr70); rw [← hy70, ← hA70, ← hc70] at hcut70; have HO418 := Aside0.mk (show Kd.V k24 24 _ w.heap.size _ (.slice A70 y414.length c70) y414 from Kd.V_mk (by rw [hy70, hc70]; exact Nat.sub_le_sub_right hroom70 _) hr70); have HC418 := Aside0.mk (show y414.length ≤ c70 from by rw [hy70, hc70]; exact Nat.sub_le_sub_right hroom70 _); clear hr70 hC70 hroom70 hi070 hsz70 hc70; have KY70 := Aside0.mk hy70; have KA70 := Aside0.mk hA70; clear hy70 hA70; replace q70 := eq_true q70) | ((with_reducible refine gate_builtin (b := .append) (xs := #[.tmp 93, .tmp 96]) rfl ?_); at_builtin; refine Kd.N_append_rows k24 (w0 := w) w.heap.size rfl (.tmp 93) (.tmp 96) 60 24 (.agg #[(.string ⟨#[]⟩), (.int .i64 0), (.int .i64 0), (.slice none 0 0)]) 56 rfl Tryz.underlying60 info24 rfl (by decide) (by omega) v412 y411 y414 _ _ _ (fun k_ => (w.heap.size ≤ k_) ∧ some k_ ≠ (.slice (some ad362) t359.length co6 : Value).ownBlock ∧ some k_ ≠ (.slice (some ad366) t363.length co12 : Value).ownBlock ∧ k_ ≠ gb369) (fun k_ => ((fun k_ => (w.heap.size ≤ k_) ∧ some k_ ≠ (.slice (some ad362) t359.length co6 : Value).ownBlock ∧ some k_ ≠ (.slice (some ad366) t363.length co12 : Value).ownBlock ∧ k_ ≠ gb369)) k_ ∧ some k_ ≠ (v412 : Value).ownBlock) rfl rfl ?aO ?aR (fun _ hk => hk) ?aF ?aB ?aS ?aL ?_; (case aR => exact (by skip; exact Kd.V_F (Kd.V_mono (ok' := (fun k_ => ((fun k_ => (w.heap.size ≤ k_) ∧ some k_ ≠ (.slice (some ad362) t359.length co6 : Value).ownBlock ∧ some k_ ≠ (.slice (some ad366) t363.length co12 : Value).ownBlock ∧ k_ ≠ gb369)) k_ ∧ some k_ ≠ (v412 : Value).ownBlock)) (HO418.out) (fun k_ hk => ⟨⟨hk.1.1, ⟨hk.1.2.1, ⟨hk.1.2.2.1, hk.1.2.2.2.2⟩⟩⟩, hk.2⟩)))); (case aB => exact (by repeat (first | (with_reducible first | exact HB.out | apply below_alloc | apply pw_below_drewN | apply below_drew1 | refine below_set ?_ GE369.out) | exact HB.out))); (case aF => exact (fun k_ hk => ⟨(Nat.le_trans (below_size (by repeat (first | (with_reducible first | exact HB.out | apply below_alloc | apply pw_below_drewN | apply below_drew1 | refine below_set ?_ GE369.out) | exact HB.out))) hk), Kd.fresh' (Kd.R_lt (by (with_reducible repeat (first | apply Kd.R_alloc | apply Kd.R_drewN | apply Kd.R_drew)); exact HO_2.out)) k_ hk, Kd.fresh' (Kd.R_lt (by (with_reducible repeat (first | apply Kd.R_alloc | apply Kd.R_drewN | apply Kd.R_drew)); exact HO_4.out)) k_ hk, Kd.freshB (g := gb369) (o := .cells #[.string (rdOf ByteArray.empty t363 x5_2), .int .i64 ((rd_T76 t359 x3_1).f1), .int .i64 ((rd_T76 t359 x3_1).f2), .slice Ao69 x370003_3.length co69] 24 (0, 0)) (by (with_reducible repeat (first | refine blk_drewN ?_ _ | refine blk_drew ?_ | refine blk_alloc ?_ _)); exact BK369.out) k_ hk⟩)); (case aO => exact (by (with_reducible repeat (first | apply Kd.N_alloc | apply Kd.N_drewN | apply Kd.N_drew)); exact HO413.out)); (case aS => exact (below_size (by repeat (first | (with_reducible first | exact HB.out | apply below_alloc | apply pw_below_drewN | apply below_drew1 | refine below_set ?_ GE369.out) | exact HB.out)))); (case aL => have := LMc60.out; omega); intro v420 w71 ho hb hg hat; rw [← Ny419.out] at ho; have n0_ := Aside0.mk (Kd.N_afterv (ok := (fun k_ => (w.heap.size ≤ k_) ∧ some k_ ≠ (.slice (some ad362) t359.length co6 : Value).ownBlock ∧ some k_ ≠ (.slice (some ad366) t363.length co12 : Value).ownBlock ∧ k_ ≠ gb369)) (by (with_reducible repeat (first | apply Kd.N_alloc | apply Kd.N_drewN | apply Kd.N_drew)); exact Kd.N_mono HO_1.out (fun _ hk => ⟨⟨hk.1.1, ⟨hk.1.2.1, ⟨hk.1.2.2.1, hk.1.2.2.2.2⟩⟩⟩, hk.2⟩)) hg hat); have n1_ := Aside0.mk (Kd.R_over' (by (with_reducible repeat (first | apply Kd.R_alloc | apply Kd.R_drewN | apply Kd.R_drew)); exact HO_2.out) (Kd.N_typed (by (with_reducible repeat (first | apply Kd.N_alloc | apply Kd.N_drewN | apply Kd.N_drew)); exact HO413.out)) (by decide) hg); have n2_ := Aside0.mk (Kd.R_over' (by (with_reducible repeat (first | apply Kd.R_alloc | apply Kd.R_drewN | apply Kd.R_drew)); exact HO_4.out) (Kd.N_typed (by (with_reducible repeat (first | apply Kd.N_alloc | apply Kd.N_drewN | apply Kd.N_drew)); exact HO413.out)) (by decide) hg); have n3_ := Aside0.mk (blk_grown (g := gb369) (o := .cells #[.string (rdOf ByteArray.empty t363 x5_2), .int .i64 ((rd_T76 t359 x3_1).f1), .int .i64 ((rd_T76 t359 x3_1).f2), .slice Ao69 x370003_3.length co69] 24 (0, 0)) (by (with_reducible repeat (first | refine blk_drewN ?_ _ | refine blk_drew ?_ | refine blk_alloc ?_ _)); exact BK369.out) hg (Kd.N_away HO413.out (fun _ hk => hk.2.2.2))); have n4_ := Aside0.mk (Kd.V_afterv (ok := (fun k_ => (w.heap.size ≤ k_) ∧ some k_ ≠ (.slice (some ad362) t359.length co6 : Value).ownBlock ∧ some k_ ≠ (.slice (some ad366) t363.length co12 : Value).ownBlock ∧ k_ ≠ gb369)) (by (with_reducible repeat (first | apply Kd.V_alloc | apply Kd.V_drewN | apply Kd.V_drew)); exact Kd.V_mono HO407.out (fun _ hk => ⟨⟨hk.1.1, ⟨hk.1.2.1, ⟨hk.1.2.2.1, hk.1.2.2.2.2⟩⟩⟩, hk.2⟩)) hg hat); have n5_ := Aside0.mk (Kd.V_afterv (ok := (fun k_ => (w.heap.size ≤ k_) ∧ some k_ ≠ (.slice (some ad362) t359.length co6 : Value).ownBlock ∧ some k_ ≠ (.slice (some ad366) t363.length co12 : Value).ownBlock ∧ k_ ≠ gb369)) (by (with_reducible repeat (first | apply Kd.V_alloc | apply Kd.V_drewN | apply Kd.V_drew)); exact Kd.V_mono HO418.out (fun _ hk => ⟨⟨hk.1.1, ⟨hk.1.2.1, ⟨hk.1.2.2.1, hk.1.2.2.2.2⟩⟩⟩, hk.2⟩)) hg hat); have n6_ := Aside0.mk (hb); have n7_ := Aside0.mk (ho); clear HO_1; clear HO_2; clear HO_4; clear BK369; clear HO407; clear HO418; clear HB; clear HO413; have HO_1 := n0_; have HO_2 := n1_; have HO_4 := n2_; have BK369 := n3_; have HO407 := n4_; have HO418 := n5_; have HB := n6_; have HO421 := n7_; clear n0_ n1_ n2_ n3_ n4_ n5_ n6_ n7_; clear ho hb hg hat))
                        go_roundg k4
                        case measure => have := HK1.out; have := HK2.out; have := HK3.out; have := HK4.out; omega
                        case rel => exact ⟨(y419), (wrap64 (x5_2 + 1)), (rflS), H', ⟨by have := HK1.out; have := HK2.out; have := HK3.out; have := HK4.out; omega⟩, ⟨by (with_reducible repeat (first | apply Kd.N_alloc | apply Kd.N_drewN | apply Kd.N_drew)); exact Kd.N_mono HO421.out (fun _ hk => ⟨hk.1, ⟨hk.2.1, hk.2.2.1⟩⟩)⟩, ⟨by (with_reducible repeat (first | apply Kd.R_alloc | apply Kd.R_drewN | apply Kd.R_drew)); exact HO_2.out⟩, ⟨by (with_reducible repeat (first | apply Kd.R_alloc | apply Kd.R_drewN | apply Kd.R_drew)); exact HO_4.out⟩, ⟨by repeat (first | (with_reducible first | exact HB.out | apply below_alloc | apply pw_below_drewN | apply below_drew1 | refine below_set ?_ GE369.out) | exact HB.out)⟩⟩
                       ·rw [if_neg c60] at H
                        exact absurd H (by simp)
                      ·rw [if_neg c57] at H
                       exact absurd H (by simp)
                     ·rw [if_neg c56] at H
                      exact absurd H (by simp)
                    ·rw [if_neg c55] at H
                     exact absurd H (by simp)
                   ·rw [if_neg c54] at H
                    exact absurd H (by simp)
              ·rw [if_neg c20] at H
               exact absurd H (by simp)
             ·rw [if_neg c19] at H
              exact absurd H (by simp)
          ·rw [if_neg c11] at H
           exact absurd H (by simp)
         ·rw [if_neg c10] at H
          exact absurd H (by simp)
        ·rw [if_neg c9] at H
         exact absurd H (by simp)
       ·rw [if_neg c8] at H
        have c8b0 : decide (x5_2 < (t363.length : Int)) = false := decide_eq_false c8
        clear c8
        have H' := Aside0.mk H
        clear H
        obtain ⟨Ao72, co72, eo72⟩ := Kd.R_slice HO_4.out
        subst eo72
        go_wp2
        go_roundg k2
        case measure => have := HK1.out; have := HK2.out; omega
        case rel => exact ⟨(x1_2), (wrap64 (x3_1 + 1)), (rflS), H', ⟨by have := HK1.out; have := HK2.out; omega⟩, ⟨by (with_reducible repeat (first | apply Kd.N_alloc | apply Kd.N_drewN | apply Kd.N_drew)); exact Kd.N_mono HO_1.out (fun _ hk => ⟨hk.1, hk.2.1⟩)⟩, ⟨by (with_reducible repeat (first | apply Kd.R_alloc | apply Kd.R_drewN | apply Kd.R_drew)); exact HO_2.out⟩, ⟨by repeat (first | (with_reducible first | exact HB.out | apply below_alloc | apply pw_below_drewN | apply below_drew1) | exact HB.out)⟩⟩
    ·rw [if_neg c4] at H
     exact absurd H (by simp)
   ·rw [if_neg c3] at H
    have c3b0 : decide (x3_1 < (t359.length : Int)) = false := decide_eq_false c3
    clear c3
    obtain rfl := Option.some.inj H
    obtain ⟨Ao73, co73, eo73⟩ := Kd.R_slice HO_2.out
    subst eo73
    go_wp2
    go_ret
    exact ⟨_, rflE, by (with_reducible repeat (first | apply Kd.N_alloc | apply Kd.N_drewN | apply Kd.N_drew)); exact Kd.N_mono HO_1.out (fun _ hk => hk.1), by repeat (first | (with_reducible first | exact HB.out | apply below_alloc | apply pw_below_drewN | apply below_drew1) | exact HB.out)⟩
end Go.Proofs.YtopdjokncbpghaaGreatDoor.Pr
end
