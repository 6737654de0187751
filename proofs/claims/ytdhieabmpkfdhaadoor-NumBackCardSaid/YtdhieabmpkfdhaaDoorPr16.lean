-- Printed by pr.py, a program of this claim's author, out of Lean's own print of the program. Not trusted: Lean checks it.
import Derived.Test.YtdhieabmpkfdhaaDoorPr0
import Derived.Test.YtdhieabmpkfdhaaDoorPr8
namespace Go.Proofs.YtdhieabmpkfdhaaDoor.Pr
open Go.RowKit Go.Proofs.YtdhieabmpkfdhaaDoorW.PrintWords Go.Proofs.YtdhieabmpkfdhaaDoorW.PrintLast Go.Proofs.YtdhieabmpkfdhaaDoorW.PrintMore
attribute [local go_sem] max2_int min2_int max_two min_two max_three min_three max_four min_four   -- for this text's walks alone
set_option linter.unusedVariables false
set_option linter.unusedSimpArgs false

/-! ### foolscapref01_Digits: function 45 -/
def foolscapref01_Digits.f : Nat → Int → Option (ByteArray)
  | 0, _ => none
  | k + 1, a0 => (some (([(wrap64 (48 + (Int.tmod a0 10))) % 256] : List Int) : List Int)).bind fun y220 => (if a0 < 10 then (some (strOfNums y220)) else ((foolscapref01_Digits.f k (wrap64 (Int.tdiv a0 10))).bind fun t223 => (if t223.size + (strOfNums y220).size ≤ 9223372036854775807 then (some (t223 ++ (strOfNums y220))) else (none))))
theorem foolscapref01_Digits.mono_l : ∀ k, (∀ y0, LeO (foolscapref01_Digits.f k y0) (foolscapref01_Digits.f (k + 1) y0))
  | 0 => fun _ r h => by simp [foolscapref01_Digits.f] at h
  | k + 1 => by
    have ih0 := foolscapref01_Digits.mono_l k
    · intro y0
      unfold foolscapref01_Digits.f
      repeat' first
      | (with_reducible exact ih0 _)
      | (with_reducible exact LeO.refl _)
      | (with_reducible exact LeO.none _)
      | (with_reducible refine LeO.ite ?_ ?_)
      | (with_reducible refine LeO.bind ?_ (fun _ => ?_))
      | exact ih0 _
      | exact LeO.none _
      | refine LeO.ite ?_ ?_
      | refine LeO.bind ?_ (fun _ => ?_)
theorem foolscapref01_Digits.mono : ∀ a0 k, LeO (foolscapref01_Digits.f k a0) (foolscapref01_Digits.f (k + 1) a0) := by
  intro a0 k
  have ih0 := foolscapref01_Digits.mono_l k
  exact ih0 a0
set_option maxHeartbeats 8000000 in
set_option maxRecDepth 100000 in
theorem foolscapref01_Digits.calls (k : Nat) : ∀ (a0 : Int) (r : ByteArray) (w : World) (h : foolscapref01_Digits.f k a0 = some r),
    Calls Tryd.prog 45 #[.int .i64 a0] w fun e w' => e = .returned (.string r) ∧ Below w.heap.size w w' := by
  induction k using Nat.strongRecOn with
  | _ k ih =>
  intro a0 r w h
  cases k with
  | zero => exact absurd h (by simp [foolscapref01_Digits.f])
  | succ k =>
  simp only [foolscapref01_Digits.f] at h
  have HB := Aside0.mk (Below.refl w.heap.size w)
  have H : ((some (([(wrap64 (48 + (Int.tmod a0 10))) % 256] : List Int) : List Int)).bind fun y220 => (if a0 < 10 then (some (strOfNums y220)) else ((foolscapref01_Digits.f k (wrap64 (Int.tdiv a0 10))).bind fun t223 => (if t223.size + (strOfNums y220).size ≤ 9223372036854775807 then (some (t223 ++ (strOfNums y220))) else (none))))) = some r := h
  clear h
  obtain ⟨y220, hy220⟩ : ∃ y_ : List Int, y_ = (([(wrap64 (48 + (Int.tmod a0 10))) % 256] : List Int)) := ⟨_, rfl⟩
  replace H : (if a0 < 10 then (some (strOfNums y220)) else ((foolscapref01_Digits.f k (wrap64 (Int.tdiv a0 10))).bind fun t223 => (if t223.size + (strOfNums y220).size ≤ 9223372036854775807 then (some (t223 ++ (strOfNums y220))) else (none)))) = some r := by first | (rw [hy220]; with_reducible exact H) | (have H2_ := (Option.bind_some _ _).symm.trans H; rw [hy220]; with_reducible exact H2_) | (have H2_ := (Option.bind_some _ _).symm.trans H; with_reducible exact H2_) | with_reducible exact H | (rw [hy220]; exact H) | exact H
  have Ny220 := Aside0.mk hy220
  clear hy220
  by_cases c2 : a0 < 10
  · rw [if_pos c2] at H
    have c2b0 : decide (a0 < 10) = true := decide_eq_true c2
    clear c2
    obtain rfl := Option.some.inj H
    go_enter Tryd.func45, Tryd.ntmps45
    go_wp2_with (first | ((with_reducible refine gate_dst (N := 8) rfl ?_); refine Kd.R_lit (Kd.int .u8) _ 5 ?hg (N := 8) ?hd (xs := ([(wrap64 (48 + (Int.tmod a0 10))) % 256] : List Int)) (inner := [.int .u8 ((wrap64 (48 + (Int.tmod a0 10))) % 256)]) (ok := fun _ => True) (okp := fun _ => True) ?hr ?hp (fun _ hk => hk) trivial (Below.refl _ _) (Nat.le_refl _) (by simp) ?_; (case hd => rfl); (case hg => rfl); (case hr => first | (go_simp; done) | (go_simp; rfl)); (case hp => exact (Reps.one (show Kd.M (Kd.int .u8) _ _ _ ((wrap64 (48 + (Int.tmod a0 10))) % 256) [.int .u8 ((wrap64 (48 + (Int.tmod a0 10))) % 256)] from rfl) (Reps.none _ _))); intro v221 w3 ho4 hb hg_ hnew_; clear hg_ hnew_; (first | rw [← Ny220.out] at ho4 | (simp only [Int.reduceToNat] at ho4; rw [← Ny220.out] at ho4)); have n0_ := Aside0.mk (Kd.R_lower ho4 (below_size (by repeat (first | (with_reducible first | exact HB.out | apply below_alloc | apply pw_below_drewN | apply below_drew1) | exact HB.out)))); have n1_ := Aside0.mk (below_step (by repeat (first | (with_reducible first | exact HB.out | apply below_alloc | apply pw_below_drewN | apply below_drew1) | exact HB.out)) hb); clear HB; have HO222 := n0_; have HB := n1_; clear n0_ n1_; clear hb ho4; have hcv5 := own_string (P := Tryd.prog) Tryd.underlying79 Tryd.underlying5 Tryd.underlying9 (Kd.own_of_R HO222.out)))
    go_ret
    exact ⟨by first | rfl | (simp [errW_none, errW_some] <;> rfl) | (simp [*, errW_none, errW_some] <;> rfl), by repeat (first | (with_reducible first | exact HB.out | apply below_alloc | apply pw_below_drewN | apply below_drew1) | exact HB.out)⟩
  · rw [if_neg c2] at H
    have c2b0 : decide (a0 < 10) = false := decide_eq_false c2
    clear c2
    replace H := Option.bind_eq_some_iff.mp H
    obtain ⟨t223, A60, H⟩ := H
    replace H : (if t223.size + (strOfNums y220).size ≤ 9223372036854775807 then (some (t223 ++ (strOfNums y220))) else (none)) = some r := H
    have A6 := Aside0.mk A60
    clear A60
    by_cases c7 : t223.size + (strOfNums y220).size ≤ 9223372036854775807
    · rw [if_pos c7] at H
      have c7b0 := eq_true c7
      have c7b1 : decide (t223.size + (strOfNums y220).size ≤ 9223372036854775807) = true := decide_eq_true c7
      try have c7b2 : (9223372036854775807 < t223.size + (strOfNums y220).size) = False := eq_false (Nat.not_lt.2 c7)
      obtain rfl := Option.some.inj H
      go_enter Tryd.func45, Tryd.ntmps45
      go_wp2_with (first | ((with_reducible refine gate_dst (N := 8) rfl ?_); refine Kd.R_lit (Kd.int .u8) _ 5 ?hg (N := 8) ?hd (xs := ([(wrap64 (48 + (Int.tmod a0 10))) % 256] : List Int)) (inner := [.int .u8 ((wrap64 (48 + (Int.tmod a0 10))) % 256)]) (ok := fun _ => True) (okp := fun _ => True) ?hr ?hp (fun _ hk => hk) trivial (Below.refl _ _) (Nat.le_refl _) (by simp) ?_; (case hd => rfl); (case hg => rfl); (case hr => first | (go_simp; done) | (go_simp; rfl)); (case hp => exact (Reps.one (show Kd.M (Kd.int .u8) _ _ _ ((wrap64 (48 + (Int.tmod a0 10))) % 256) [.int .u8 ((wrap64 (48 + (Int.tmod a0 10))) % 256)] from rfl) (Reps.none _ _))); intro v221 w8 ho9 hb hg_ hnew_; clear hg_ hnew_; (first | rw [← Ny220.out] at ho9 | (simp only [Int.reduceToNat] at ho9; rw [← Ny220.out] at ho9)); have n0_ := Aside0.mk (Kd.R_lower ho9 (below_size (by repeat (first | (with_reducible first | exact HB.out | apply below_alloc | apply pw_below_drewN | apply below_drew1) | exact HB.out)))); have n1_ := Aside0.mk (below_step (by repeat (first | (with_reducible first | exact HB.out | apply below_alloc | apply pw_below_drewN | apply below_drew1) | exact HB.out)) hb); clear HB; have HO222 := n0_; have HB := n1_; clear n0_ n1_; clear hb ho9; have hcv10 := own_string (P := Tryd.prog) Tryd.underlying79 Tryd.underlying5 Tryd.underlying9 (Kd.own_of_R HO222.out)) | ((with_reducible refine gate_callee (f := 45) rfl ?_); refine goesL_ (some 15) rfl rfl Tryd.func45 (by kernel_rfl) rfl #[.int .i64 (wrap64 (Int.tdiv a0 10))] rfl (by (try simp only [List.map_toArray, List.map_cons, List.map_nil]); first | done | rfl | (simp only [List.length_drop, List.length_take]; rfl) | (simp only [ByteArray.size_append, Int.natCast_add]; done) | (simp only [ByteArray.size_append, Int.natCast_add]; rfl) | (simp only [Array.mk.injEq, List.cons.injEq, Value.int.injEq, true_and, and_true]; (try simp only [mx, mn, wrap64] at *); omega)) ?_; (with_reducible refine (ih k (by omega) (wrap64 (Int.tdiv a0 10)) t223 _ A6.out).mono ?_); rintro e w11 ⟨rfl, hb⟩; refine ⟨_, rfl, ?_⟩; have n0_ := Aside0.mk (Kd.R_below (by (with_reducible repeat (first | apply Kd.R_alloc | apply Kd.R_drewN | apply Kd.R_drew)); exact HO222.out) hb); have n1_ := Aside0.mk (below_step (by repeat (first | (with_reducible first | exact HB.out | apply below_alloc | apply pw_below_drewN | apply below_drew1) | exact HB.out)) hb); clear HO222; clear HB; have HO222 := n0_; have HB := n1_; clear n0_ n1_; (try clear hb); (try clear hb2); (try clear hk); (try clear hi)))
      go_ret
      exact ⟨by first | rfl | (simp [errW_none, errW_some] <;> rfl) | (simp [*, errW_none, errW_some] <;> rfl), by repeat (first | (with_reducible first | exact HB.out | apply below_alloc | apply pw_below_drewN | apply below_drew1) | exact HB.out)⟩
    · rw [if_neg c7] at H
      exact absurd H (by simp)

/-! ### foolscapref01_Print: function 28 -/
mutual
def foolscapref01_Print.j0 : Nat → Int → ByteArray → Option (ByteArray × Int)
  | 0, _, _ => none
  | k + 1, x0, x4 => (foolscapref01_Size.f x0).bind fun t225 => ((foolscapref01_Digits.f k (wrap64 (Int.tdiv t225 1000000))).bind fun t226 => (if x4.size + t226.size ≤ 9223372036854775807 then ((foolscapref01_Size.f x0).bind fun t227 => ((foolscapref01_Digits.f k (wrap64 (1000000 + (Int.tmod t227 1000000)))).bind fun t228 => (if 1 ≤ (t228.size : Int) then (foolscapref01_Print.l0 k (x4 ++ t226) (t228.extract 1 t228.size)) else (none)))) else (none)))
def foolscapref01_Print.l0 : Nat → ByteArray → ByteArray → Option (ByteArray × Int)
  | 0, _, _ => none
  | k + 1, x4, x5 => if (x5.size : Int) > 0 then (if 0 ≤ (wrap64 ((x5.size : Int) - 1)) then (if (wrap64 ((x5.size : Int) - 1)) < (x5.size : Int) then (if (bt x5 (wrap64 ((x5.size : Int) - 1))) = 48 then (if (wrap64 ((x5.size : Int) - 1)) ≤ (x5.size : Int) then (foolscapref01_Print.l0 k x4 (x5.extract 0 ((wrap64 ((x5.size : Int) - 1)) : Int).toNat)) else (none)) else (if x5.toList = ([] : List UInt8) then (some (x4, 0)) else (if x4.size + 1 ≤ 9223372036854775807 then (if (x4 ++ (⟨#[46]⟩ : ByteArray)).size + x5.size ≤ 9223372036854775807 then (some ((x4 ++ (⟨#[46]⟩ : ByteArray)) ++ x5, 0)) else (none)) else (none)))) else (none)) else (none)) else (if x5.toList = ([] : List UInt8) then (some (x4, 0)) else (if x4.size + 1 ≤ 9223372036854775807 then (if (x4 ++ (⟨#[46]⟩ : ByteArray)).size + x5.size ≤ 9223372036854775807 then (some ((x4 ++ (⟨#[46]⟩ : ByteArray)) ++ x5, 0)) else (none)) else (none)))
end
def foolscapref01_Print.f (k : Nat) (a0 : Int) : Option (ByteArray × Int) := (foolscapref01_Fits.f a0).bind fun t224 => (if t224 = true then (if a0 < 0 then (foolscapref01_Print.j0 k a0 (⟨#[45]⟩ : ByteArray)) else (foolscapref01_Print.j0 k a0 (⟨#[]⟩ : ByteArray))) else (some ((⟨#[]⟩ : ByteArray), 2)))
theorem foolscapref01_Print.mono_l : ∀ k, (∀ y0 y1, LeO (foolscapref01_Print.j0 k y0 y1) (foolscapref01_Print.j0 (k + 1) y0 y1)) ∧ (∀ y0 y1, LeO (foolscapref01_Print.l0 k y0 y1) (foolscapref01_Print.l0 (k + 1) y0 y1))
  | 0 => ⟨fun _ _ r h => by simp [foolscapref01_Print.j0] at h, fun _ _ r h => by simp [foolscapref01_Print.l0] at h⟩
  | k + 1 => by
    obtain ⟨ih0, ih1⟩ := foolscapref01_Print.mono_l k
    refine ⟨?_, ?_⟩
    · intro y0 y1
      unfold foolscapref01_Print.j0
      repeat' first
      | (with_reducible exact ih0 _ _)
      | (with_reducible exact ih1 _ _)
      | (with_reducible exact foolscapref01_Digits.mono _ _)
      | (with_reducible exact LeO.refl _)
      | (with_reducible exact LeO.none _)
      | (with_reducible refine LeO.ite ?_ ?_)
      | (with_reducible refine LeO.bind ?_ (fun _ => ?_))
      | exact ih0 _ _
      | exact ih1 _ _
      | exact foolscapref01_Digits.mono _ _
      | exact LeO.none _
      | refine LeO.ite ?_ ?_
      | refine LeO.bind ?_ (fun _ => ?_)
    · intro y0 y1
      unfold foolscapref01_Print.l0
      repeat' first
      | (with_reducible exact ih0 _ _)
      | (with_reducible exact ih1 _ _)
      | (with_reducible exact foolscapref01_Digits.mono _ _)
      | (with_reducible exact LeO.refl _)
      | (with_reducible exact LeO.none _)
      | (with_reducible refine LeO.ite ?_ ?_)
      | (with_reducible refine LeO.bind ?_ (fun _ => ?_))
      | exact ih0 _ _
      | exact ih1 _ _
      | exact foolscapref01_Digits.mono _ _
      | exact LeO.none _
      | refine LeO.ite ?_ ?_
      | refine LeO.bind ?_ (fun _ => ?_)
theorem foolscapref01_Print.mono : ∀ a0 k, LeO (foolscapref01_Print.f k a0) (foolscapref01_Print.f (k + 1) a0) := by
  intro a0 k
  obtain ⟨ih0, ih1⟩ := foolscapref01_Print.mono_l k
  unfold foolscapref01_Print.f
  repeat' first
      | (with_reducible exact ih0 _ _)
      | (with_reducible exact ih1 _ _)
      | (with_reducible exact foolscapref01_Digits.mono _ _)
      | (with_reducible exact LeO.refl _)
      | (with_reducible exact LeO.none _)
      | (with_reducible refine LeO.ite ?_ ?_)
      | (with_reducible refine LeO.bind ?_ (fun _ => ?_))
      | exact ih0 _ _
      | exact ih1 _ _
      | exact foolscapref01_Digits.mono _ _
      | exact LeO.none _
      | refine LeO.ite ?_ ?_
      | refine LeO.bind ?_ (fun _ => ?_)
set_option maxHeartbeats 8000000 in
set_option maxRecDepth 100000 in
theorem foolscapref01_Print.calls (k : Nat) (a0 : Int) (r1 : ByteArray) (r2 : Int) (w : World) (h : foolscapref01_Print.f k a0 = some (r1, r2)) :
    Calls Tryd.prog 28 #[.int .i64 a0] w fun e w' => e = .returned (.tuple #[.string r1, .int .i64 r2]) ∧ Below w.heap.size w w' := by
  have HB := Aside0.mk (Below.refl w.heap.size w)
  have H : ((foolscapref01_Fits.f a0).bind fun t224 => (if t224 = true then (if a0 < 0 then (foolscapref01_Print.j0 k a0 (⟨#[45]⟩ : ByteArray)) else (foolscapref01_Print.j0 k a0 (⟨#[]⟩ : ByteArray))) else (some ((⟨#[]⟩ : ByteArray), 2)))) = some (r1, r2) := h
  clear h
  replace H := Option.bind_eq_some_iff.mp H
  obtain ⟨t224, A20, H⟩ := H
  replace H : (if t224 = true then (if a0 < 0 then (foolscapref01_Print.j0 k a0 (⟨#[45]⟩ : ByteArray)) else (foolscapref01_Print.j0 k a0 (⟨#[]⟩ : ByteArray))) else (some ((⟨#[]⟩ : ByteArray), 2))) = some (r1, r2) := H
  have A2 := Aside0.mk A20
  clear A20
  by_cases c3 : t224 = true
  · subst c3
    have H1 : (if a0 < 0 then (foolscapref01_Print.j0 k a0 (⟨#[45]⟩ : ByteArray)) else (foolscapref01_Print.j0 k a0 (⟨#[]⟩ : ByteArray))) = some (r1, r2) := by rw [if_pos rfl] at H; exact H
    clear H
    have H := H1
    clear H1
    have HC4 := Aside0.mk H
    clear H
    go_enter Tryd.func28, Tryd.ntmps28
    go_upto_if 10 with (first | ((with_reducible refine gate_callee (f := 23) rfl ?_); refine goesL_ (some 7) rfl rfl Tryd.func23 (by kernel_rfl) rfl #[.int .i64 a0] rfl (by (try simp only [List.map_toArray, List.map_cons, List.map_nil]); first | done | rfl | (simp only [List.length_drop, List.length_take]; rfl) | (simp only [ByteArray.size_append, Int.natCast_add]; done) | (simp only [ByteArray.size_append, Int.natCast_add]; rfl) | (simp only [Array.mk.injEq, List.cons.injEq, Value.int.injEq, true_and, and_true]; (try simp only [mx, mn, wrap64] at *); omega)) ?_; (with_reducible refine (foolscapref01_Fits.calls a0 true _ A2.out).mono ?_); rintro e w' ⟨rfl, ⟨nd, rfl⟩⟩; refine ⟨_, rfl, ?_⟩))
    (try simp only [Act.put, List.setIfInBounds_toArray, List.set_cons_zero, List.set_cons_succ])
    go_cut [4] (fun v4 wc => ∃ (kq : Nat) (x4_3 : ByteArray), v4 = .string x4_3 ∧ Aside0 (foolscapref01_Print.j0 kq a0 x4_3 = some (r1, r2)) ∧ Aside0 (kq ≤ k) ∧ Aside0 (Below w.heap.size w wc))
    case first =>
      have H := HC4.out
      clear HC4
      by_cases c5 : a0 < 0
      · rw [if_pos c5] at H
        have c5b0 : decide (a0 < 0) = true := decide_eq_true c5
        clear c5
        (first | rw [c5b0] | (simp only [i64_w, i32_w]; rw [c5b0]) | skip)
        have H' := Aside0.mk H
        clear H
        go_wp2
        go_meet
        case rel => exact ⟨_, ((⟨#[45]⟩ : ByteArray)), (by first | rfl | (simp; done) | (simp [*]; done)), H', ⟨by first | omega | exact Nat.le_refl _⟩, ⟨by repeat (first | (with_reducible first | exact HB.out | apply below_alloc | apply pw_below_drewN | apply below_drew1) | exact HB.out)⟩⟩
      · rw [if_neg c5] at H
        have c5b0 : decide (a0 < 0) = false := decide_eq_false c5
        clear c5
        (first | rw [c5b0] | (simp only [i64_w, i32_w]; rw [c5b0]) | skip)
        have H' := Aside0.mk H
        clear H
        go_wp2
        go_meet
        case rel => exact ⟨_, ((⟨#[]⟩ : ByteArray)), (by first | rfl | (simp; done) | (simp [*]; done)), H', ⟨by first | omega | exact Nat.le_refl _⟩, ⟨by repeat (first | (with_reducible first | exact HB.out | apply below_alloc | apply pw_below_drewN | apply below_drew1) | exact HB.out)⟩⟩
    case rest =>
      clear HC4
      try clear c2
      try clear p2
      try clear c3
      try clear c5
      try clear c5b0
      obtain ⟨kq, x4_3, rfl, HA, HJ3, HB⟩ := hcut
      cases kq with
      | zero => exact absurd HA.out (by simp [foolscapref01_Print.j0])
      | succ kj3 =>
        have H := HA.out
        clear HA
        simp only [foolscapref01_Print.j0] at H
        replace H := Option.bind_eq_some_iff.mp H
        obtain ⟨t225, A60, H⟩ := H
        replace H : ((foolscapref01_Digits.f kj3 (wrap64 (Int.tdiv t225 1000000))).bind fun t226 => (if x4_3.size + t226.size ≤ 9223372036854775807 then ((foolscapref01_Size.f a0).bind fun t227 => ((foolscapref01_Digits.f kj3 (wrap64 (1000000 + (Int.tmod t227 1000000)))).bind fun t228 => (if 1 ≤ (t228.size : Int) then (foolscapref01_Print.l0 kj3 (x4_3 ++ t226) (t228.extract 1 t228.size)) else (none)))) else (none))) = some (r1, r2) := H
        have A6 := Aside0.mk A60
        clear A60
        replace H := Option.bind_eq_some_iff.mp H
        obtain ⟨t226, A70, H⟩ := H
        replace H : (if x4_3.size + t226.size ≤ 9223372036854775807 then ((foolscapref01_Size.f a0).bind fun t227 => ((foolscapref01_Digits.f kj3 (wrap64 (1000000 + (Int.tmod t227 1000000)))).bind fun t228 => (if 1 ≤ (t228.size : Int) then (foolscapref01_Print.l0 kj3 (x4_3 ++ t226) (t228.extract 1 t228.size)) else (none)))) else (none)) = some (r1, r2) := H
        have A7 := Aside0.mk A70
        clear A70
        by_cases c8 : x4_3.size + t226.size ≤ 9223372036854775807
        · rw [if_pos c8] at H
          have c8b0 := eq_true c8
          have c8b1 : decide (x4_3.size + t226.size ≤ 9223372036854775807) = true := decide_eq_true c8
          try have c8b2 : (9223372036854775807 < x4_3.size + t226.size) = False := eq_false (Nat.not_lt.2 c8)
          replace H := Option.bind_eq_some_iff.mp H
          obtain ⟨t227, A90, H⟩ := H
          replace H : ((foolscapref01_Digits.f kj3 (wrap64 (1000000 + (Int.tmod t227 1000000)))).bind fun t228 => (if 1 ≤ (t228.size : Int) then (foolscapref01_Print.l0 kj3 (x4_3 ++ t226) (t228.extract 1 t228.size)) else (none))) = some (r1, r2) := H
          have A9 := Aside0.mk A90
          clear A90
          replace H := Option.bind_eq_some_iff.mp H
          obtain ⟨t228, A100, H⟩ := H
          replace H : (if 1 ≤ (t228.size : Int) then (foolscapref01_Print.l0 kj3 (x4_3 ++ t226) (t228.extract 1 t228.size)) else (none)) = some (r1, r2) := H
          have A10 := Aside0.mk A100
          clear A100
          by_cases c11 : 1 ≤ (t228.size : Int)
          · rw [if_pos c11] at H
            have c11b0 := eq_true c11
            have c11b1 : decide (1 ≤ (t228.size : Int)) = true := decide_eq_true c11
            clear c11
            have H' := Aside0.mk H
            clear H
            go_wp2_with (first | ((with_reducible refine gate_callee (f := 34) rfl ?_); refine goesL_ (some 13) rfl rfl Tryd.func34 (by kernel_rfl) rfl #[.int .i64 a0] rfl (by (try simp only [List.map_toArray, List.map_cons, List.map_nil]); first | done | rfl | (simp only [List.length_drop, List.length_take]; rfl) | (simp only [ByteArray.size_append, Int.natCast_add]; done) | (simp only [ByteArray.size_append, Int.natCast_add]; rfl) | (simp only [Array.mk.injEq, List.cons.injEq, Value.int.injEq, true_and, and_true]; (try simp only [mx, mn, wrap64] at *); omega)) ?_; (with_reducible refine (foolscapref01_Size.calls a0 t225 _ A6.out).mono ?_); rintro e w12 ⟨rfl, hb⟩; refine ⟨_, rfl, ?_⟩; have n0_ := Aside0.mk (below_step (by repeat (first | (with_reducible first | exact HB.out | apply below_alloc | apply pw_below_drewN | apply below_drew1) | exact HB.out)) hb); clear HB; have HB := n0_; clear n0_; (try clear hb); (try clear hb2); (try clear hk); (try clear hi)) | ((with_reducible refine gate_callee (f := 45) rfl ?_); refine goesL_ (some 15) rfl rfl Tryd.func45 (by kernel_rfl) rfl #[.int .i64 (wrap64 (Int.tdiv t225 1000000))] rfl (by (try simp only [List.map_toArray, List.map_cons, List.map_nil]); first | done | rfl | (simp only [List.length_drop, List.length_take]; rfl) | (simp only [ByteArray.size_append, Int.natCast_add]; done) | (simp only [ByteArray.size_append, Int.natCast_add]; rfl) | (simp only [Array.mk.injEq, List.cons.injEq, Value.int.injEq, true_and, and_true]; (try simp only [mx, mn, wrap64] at *); omega)) ?_; (with_reducible refine (foolscapref01_Digits.calls kj3 (wrap64 (Int.tdiv t225 1000000)) t226 _ A7.out).mono ?_); rintro e w13 ⟨rfl, hb⟩; refine ⟨_, rfl, ?_⟩; have n0_ := Aside0.mk (below_step (by repeat (first | (with_reducible first | exact HB.out | apply below_alloc | apply pw_below_drewN | apply below_drew1) | exact HB.out)) hb); clear HB; have HB := n0_; clear n0_; (try clear hb); (try clear hb2); (try clear hk); (try clear hi)) | ((with_reducible refine gate_callee (f := 34) rfl ?_); refine goesL_ (some 18) rfl rfl Tryd.func34 (by kernel_rfl) rfl #[.int .i64 a0] rfl (by (try simp only [List.map_toArray, List.map_cons, List.map_nil]); first | done | rfl | (simp only [List.length_drop, List.length_take]; rfl) | (simp only [ByteArray.size_append, Int.natCast_add]; done) | (simp only [ByteArray.size_append, Int.natCast_add]; rfl) | (simp only [Array.mk.injEq, List.cons.injEq, Value.int.injEq, true_and, and_true]; (try simp only [mx, mn, wrap64] at *); omega)) ?_; (with_reducible refine (foolscapref01_Size.calls a0 t227 _ A9.out).mono ?_); rintro e w14 ⟨rfl, hb⟩; refine ⟨_, rfl, ?_⟩; have n0_ := Aside0.mk (below_step (by repeat (first | (with_reducible first | exact HB.out | apply below_alloc | apply pw_below_drewN | apply below_drew1) | exact HB.out)) hb); clear HB; have HB := n0_; clear n0_; (try clear hb); (try clear hb2); (try clear hk); (try clear hi)) | ((with_reducible refine gate_callee (f := 45) rfl ?_); refine goesL_ (some 21) rfl rfl Tryd.func45 (by kernel_rfl) rfl #[.int .i64 (wrap64 (1000000 + (Int.tmod t227 1000000)))] rfl (by (try simp only [List.map_toArray, List.map_cons, List.map_nil]); first | done | rfl | (simp only [List.length_drop, List.length_take]; rfl) | (simp only [ByteArray.size_append, Int.natCast_add]; done) | (simp only [ByteArray.size_append, Int.natCast_add]; rfl) | (simp only [Array.mk.injEq, List.cons.injEq, Value.int.injEq, true_and, and_true]; (try simp only [mx, mn, wrap64] at *); omega)) ?_; (with_reducible refine (foolscapref01_Digits.calls kj3 (wrap64 (1000000 + (Int.tmod t227 1000000))) t228 _ A10.out).mono ?_); rintro e w15 ⟨rfl, hb⟩; refine ⟨_, rfl, ?_⟩; have n0_ := Aside0.mk (below_step (by repeat (first | (with_reducible first | exact HB.out | apply below_alloc | apply pw_below_drewN | apply below_drew1) | exact HB.out)) hb); clear HB; have HB := n0_; clear n0_; (try clear hb); (try clear hb2); (try clear hk); (try clear hi)))
            go_loopg [5] kj3 (fun kq v5 w' => ∃ (x5_2 : ByteArray), v5 = .string x5_2 ∧ Aside0 (foolscapref01_Print.l0 kq (x4_3 ++ t226) x5_2 = some (r1, r2)) ∧ Aside0 (kq ≤ kj3) ∧ Aside0 (Below w.heap.size w w'))
            case atStart => exact ⟨(t228.extract 1 t228.size), (by first | rfl | (simp; done) | (simp [*]; done)), H', ⟨Nat.le_refl _⟩, ⟨by repeat (first | (with_reducible first | exact HB.out | apply below_alloc | apply pw_below_drewN | apply below_drew1) | exact HB.out)⟩⟩
            case round =>
              clear H'
              try clear c1
              try clear c2
              try clear p2
              try clear c3
              try clear c4
              try clear c5
              try clear c5b0
              try clear p6
              try clear c8
              try clear c8b0
              try clear c8b1
              try clear c8b2
              try clear c11
              try clear c11b0
              try clear c11b1
              try clear p2
              obtain ⟨x5_2, rfl, HA, HK2, HB⟩ := hrel
              cases gk with
              | zero => exact absurd HA.out (by simp [foolscapref01_Print.l0])
              | succ k2 =>
                have H := HA.out
                clear HA
                simp only [foolscapref01_Print.l0] at H
                by_cases c16 : (x5_2.size : Int) > 0
                · rw [if_pos c16] at H
                  have c16b0 : decide (0 < (x5_2.size : Int)) = true := decide_eq_true c16
                  have c16b1 : decide (0 < x5_2.size) = true := decide_eq_true (by omega)
                  clear c16
                  obtain ⟨ji17, hji17⟩ : ∃ j_ : Int, (wrap64 ((x5_2.size : Int) - 1)) = j_ := ⟨_, rfl⟩
                  replace H : (if 0 ≤ (ji17) then (if (ji17) < (x5_2.size : Int) then (if (bt x5_2 (ji17)) = 48 then (if (ji17) ≤ (x5_2.size : Int) then (foolscapref01_Print.l0 k2 (x4_3 ++ t226) (x5_2.extract 0 ((ji17) : Int).toNat)) else (none)) else (if x5_2.toList = ([] : List UInt8) then (some ((x4_3 ++ t226), 0)) else (if (x4_3 ++ t226).size + 1 ≤ 9223372036854775807 then (if ((x4_3 ++ t226) ++ (⟨#[46]⟩ : ByteArray)).size + x5_2.size ≤ 9223372036854775807 then (some (((x4_3 ++ t226) ++ (⟨#[46]⟩ : ByteArray)) ++ x5_2, 0)) else (none)) else (none)))) else (none)) else (none)) = some (r1, r2) := by first | (rw [hji17] at H; exact H) | (simp only [hji17] at H ⊢; exact H)
                  have hji17w : (IntKind.i64.wrap ((x5_2.size : Int) - 1)) = ji17 := (i64_w _).trans hji17
                  by_cases c18 : 0 ≤ (ji17)
                  · rw [if_pos c18] at H
                    have c18b0 : decide (0 ≤ (ji17)) = true := decide_eq_true c18
                    clear c18
                    by_cases c19 : (ji17) < (x5_2.size : Int)
                    · rw [if_pos c19] at H
                      have c19b0 : decide ((ji17) < (x5_2.size : Int)) = true := decide_eq_true c19
                      clear c19
                      by_cases c21 : (bt x5_2 (ji17)) = 48
                      · rw [if_pos c21] at H
                        have c21b0 : ((bt x5_2 (ji17)) == 48) = true := beq_iff_eq.mpr c21
                        have c21b1 : ((bt x5_2 (ji17)) != 48) = false := bne_eq_false_iff_eq.mpr c21
                        clear c21
                        have c22b0 := eq_true (of_decide_eq_true (by first | (with_reducible assumption) | assumption) : 0 ≤ (ji17))
                        by_cases c23 : (ji17) ≤ (x5_2.size : Int)
                        · rw [if_pos c23] at H
                          have c23b0 := eq_true c23
                          have c23b1 : decide ((ji17) ≤ (x5_2.size : Int)) = true := decide_eq_true c23
                          clear c23
                          have H' := Aside0.mk H
                          clear H
                          have p20 : 0 ≤ ((ji17) : Int) := of_decide_eq_true (by first | (with_reducible assumption) | assumption)
                          have q20 : (ji17) < (x5_2.size : Int) := of_decide_eq_true (by first | (with_reducible assumption) | assumption)
                          have hx20 := bt_at x5_2 (ji17)
                          replace p20 := eq_true p20
                          replace q20 := eq_true q20
                          go_wp2
                          go_roundg k2
                          case measure => have := HJ3.out; have := HK2.out; omega
                          case rel => exact ⟨(x5_2.extract 0 ((ji17) : Int).toNat), (by first | rfl | (simp; done) | (simp only [← hji17] <;> (first | rfl | simp)) | (simp [*]; done)), H', ⟨by have := HJ3.out; have := HK2.out; omega⟩, ⟨by repeat (first | (with_reducible first | exact HB.out | apply below_alloc | apply pw_below_drewN | apply below_drew1) | exact HB.out)⟩⟩
                        · rw [if_neg c23] at H
                          exact absurd H (by simp)
                      · rw [if_neg c21] at H
                        have c21b0 : ((bt x5_2 (ji17)) == 48) = false := beq_eq_false_iff_ne.mpr c21
                        have c21b1 : ((bt x5_2 (ji17)) != 48) = true := bne_iff_ne.mpr c21
                        by_cases c24 : x5_2.toList = ([] : List UInt8)
                        · rw [if_pos c24] at H
                          have c24b0 : (x5_2.toList == ([] : List UInt8)) = true := beq_iff_eq.mpr c24
                          have c24b1 : (x5_2.toList != ([] : List UInt8)) = false := bne_eq_false_iff_eq.mpr c24
                          clear c24
                          simp only [Option.some.injEq, Prod.mk.injEq] at H
                          obtain ⟨rfl, rfl⟩ := H
                          have p20 : 0 ≤ ((ji17) : Int) := of_decide_eq_true (by first | (with_reducible assumption) | assumption)
                          have q20 : (ji17) < (x5_2.size : Int) := of_decide_eq_true (by first | (with_reducible assumption) | assumption)
                          have hx20 := bt_at x5_2 (ji17)
                          replace p20 := eq_true p20
                          replace q20 := eq_true q20
                          go_wp2
                          go_ret2
                          exact ⟨by first | rfl | (simp [errW_none, errW_some] <;> rfl) | (simp only [← hji17]; first | rfl | (simp [errW_none, errW_some] <;> rfl)) | (simp [*, errW_none, errW_some] <;> rfl), by repeat (first | (with_reducible first | exact HB.out | apply below_alloc | apply pw_below_drewN | apply below_drew1) | exact HB.out)⟩
                        · rw [if_neg c24] at H
                          have c24b0 : (x5_2.toList == ([] : List UInt8)) = false := beq_eq_false_iff_ne.mpr c24
                          have c24b1 : (x5_2.toList != ([] : List UInt8)) = true := bne_iff_ne.mpr c24
                          by_cases c25 : (x4_3 ++ t226).size + 1 ≤ 9223372036854775807
                          · rw [if_pos c25] at H
                            have c25b0 := eq_true c25
                            have c25b1 : decide ((x4_3 ++ t226).size + 1 ≤ 9223372036854775807) = true := decide_eq_true c25
                            try have c25b2 : (9223372036854775807 < (x4_3 ++ t226).size + 1) = False := eq_false (Nat.not_lt.2 c25)
                            by_cases c26 : ((x4_3 ++ t226) ++ (⟨#[46]⟩ : ByteArray)).size + x5_2.size ≤ 9223372036854775807
                            · rw [if_pos c26] at H
                              have c26b0 := eq_true c26
                              have c26b1 : decide (((x4_3 ++ t226) ++ (⟨#[46]⟩ : ByteArray)).size + x5_2.size ≤ 9223372036854775807) = true := decide_eq_true c26
                              try have c26b2 : (9223372036854775807 < ((x4_3 ++ t226) ++ (⟨#[46]⟩ : ByteArray)).size + x5_2.size) = False := eq_false (Nat.not_lt.2 c26)
                              simp only [Option.some.injEq, Prod.mk.injEq] at H
                              obtain ⟨rfl, rfl⟩ := H
                              have p20 : 0 ≤ ((ji17) : Int) := of_decide_eq_true (by first | (with_reducible assumption) | assumption)
                              have q20 : (ji17) < (x5_2.size : Int) := of_decide_eq_true (by first | (with_reducible assumption) | assumption)
                              have hx20 := bt_at x5_2 (ji17)
                              replace p20 := eq_true p20
                              replace q20 := eq_true q20
                              (try (have c25b1n_ := of_decide_eq_true c25b1; simp only [ByteArray.size_append, Int.natCast_add] at c25b1n_))
                              (try (have c25b1m_ := of_decide_eq_true c25b1; rw [ByteArray.size_extract, Nat.min_eq_left (by omega), Nat.sub_zero] at c25b1m_))
                              (try (have c25b1j_ := of_decide_eq_true c25b1; simp only [ByteArray.size_append, ByteArray.size_extract, show ∀ z : UInt8, (⟨#[z]⟩ : ByteArray).size = 1 from fun _ => rfl] at c25b1j_; (repeat rw [Nat.min_eq_left (by omega)] at c25b1j_); (try simp only [Nat.sub_zero] at c25b1j_); have c25b1f_ := eq_false (Nat.not_lt.2 c25b1j_)))
                              (try (have c25b1k_ := of_decide_eq_true c25b1; simp only [ByteArray.size_append, ByteArray.size_extract, show ∀ z : UInt8, (⟨#[z]⟩ : ByteArray).size = 1 from fun _ => rfl] at c25b1k_; (repeat rw [Nat.min_eq_left (by omega)] at c25b1k_); (try simp only [Nat.sub_zero] at c25b1k_); (try simp at c25b1k_)))
                              (try (have c26b1n_ := of_decide_eq_true c26b1; simp only [ByteArray.size_append, Int.natCast_add] at c26b1n_))
                              (try (have c26b1m_ := of_decide_eq_true c26b1; rw [ByteArray.size_extract, Nat.min_eq_left (by omega), Nat.sub_zero] at c26b1m_))
                              (try (have c26b1j_ := of_decide_eq_true c26b1; simp only [ByteArray.size_append, ByteArray.size_extract, show ∀ z : UInt8, (⟨#[z]⟩ : ByteArray).size = 1 from fun _ => rfl] at c26b1j_; (repeat rw [Nat.min_eq_left (by omega)] at c26b1j_); (try simp only [Nat.sub_zero] at c26b1j_); have c26b1f_ := eq_false (Nat.not_lt.2 c26b1j_)))
                              (try (have c26b1k_ := of_decide_eq_true c26b1; simp only [ByteArray.size_append, ByteArray.size_extract, show ∀ z : UInt8, (⟨#[z]⟩ : ByteArray).size = 1 from fun _ => rfl] at c26b1k_; (repeat rw [Nat.min_eq_left (by omega)] at c26b1k_); (try simp only [Nat.sub_zero] at c26b1k_); (try simp at c26b1k_)))
                              go_wp2
                              go_ret2
                              exact ⟨by first | rfl | (simp [errW_none, errW_some] <;> rfl) | (simp only [← hji17]; first | rfl | (simp [errW_none, errW_some] <;> rfl)) | (simp [*, errW_none, errW_some] <;> rfl), by repeat (first | (with_reducible first | exact HB.out | apply below_alloc | apply pw_below_drewN | apply below_drew1) | exact HB.out)⟩
                            · rw [if_neg c26] at H
                              exact absurd H (by simp)
                          · rw [if_neg c25] at H
                            exact absurd H (by simp)
                    · rw [if_neg c19] at H
                      exact absurd H (by simp)
                  · rw [if_neg c18] at H
                    exact absurd H (by simp)
                · rw [if_neg c16] at H
                  have c16b0 : decide (0 < (x5_2.size : Int)) = false := decide_eq_false c16
                  have c16b1 : decide (0 < x5_2.size) = false := decide_eq_false (by omega)
                  clear c16
                  by_cases c27 : x5_2.toList = ([] : List UInt8)
                  · rw [if_pos c27] at H
                    have c27b0 : (x5_2.toList == ([] : List UInt8)) = true := beq_iff_eq.mpr c27
                    have c27b1 : (x5_2.toList != ([] : List UInt8)) = false := bne_eq_false_iff_eq.mpr c27
                    clear c27
                    simp only [Option.some.injEq, Prod.mk.injEq] at H
                    obtain ⟨rfl, rfl⟩ := H
                    go_wp2
                    go_ret2
                    exact ⟨by first | rfl | (simp [errW_none, errW_some] <;> rfl) | (simp [*, errW_none, errW_some] <;> rfl), by repeat (first | (with_reducible first | exact HB.out | apply below_alloc | apply pw_below_drewN | apply below_drew1) | exact HB.out)⟩
                  · rw [if_neg c27] at H
                    have c27b0 : (x5_2.toList == ([] : List UInt8)) = false := beq_eq_false_iff_ne.mpr c27
                    have c27b1 : (x5_2.toList != ([] : List UInt8)) = true := bne_iff_ne.mpr c27
                    by_cases c28 : (x4_3 ++ t226).size + 1 ≤ 9223372036854775807
                    · rw [if_pos c28] at H
                      have c28b0 := eq_true c28
                      have c28b1 : decide ((x4_3 ++ t226).size + 1 ≤ 9223372036854775807) = true := decide_eq_true c28
                      try have c28b2 : (9223372036854775807 < (x4_3 ++ t226).size + 1) = False := eq_false (Nat.not_lt.2 c28)
                      by_cases c29 : ((x4_3 ++ t226) ++ (⟨#[46]⟩ : ByteArray)).size + x5_2.size ≤ 9223372036854775807
                      · rw [if_pos c29] at H
                        have c29b0 := eq_true c29
                        have c29b1 : decide (((x4_3 ++ t226) ++ (⟨#[46]⟩ : ByteArray)).size + x5_2.size ≤ 9223372036854775807) = true := decide_eq_true c29
                        try have c29b2 : (9223372036854775807 < ((x4_3 ++ t226) ++ (⟨#[46]⟩ : ByteArray)).size + x5_2.size) = False := eq_false (Nat.not_lt.2 c29)
                        simp only [Option.some.injEq, Prod.mk.injEq] at H
                        obtain ⟨rfl, rfl⟩ := H
                        (try (have c28b1n_ := of_decide_eq_true c28b1; simp only [ByteArray.size_append, Int.natCast_add] at c28b1n_))
                        (try (have c28b1m_ := of_decide_eq_true c28b1; rw [ByteArray.size_extract, Nat.min_eq_left (by omega), Nat.sub_zero] at c28b1m_))
                        (try (have c28b1j_ := of_decide_eq_true c28b1; simp only [ByteArray.size_append, ByteArray.size_extract, show ∀ z : UInt8, (⟨#[z]⟩ : ByteArray).size = 1 from fun _ => rfl] at c28b1j_; (repeat rw [Nat.min_eq_left (by omega)] at c28b1j_); (try simp only [Nat.sub_zero] at c28b1j_); have c28b1f_ := eq_false (Nat.not_lt.2 c28b1j_)))
                        (try (have c28b1k_ := of_decide_eq_true c28b1; simp only [ByteArray.size_append, ByteArray.size_extract, show ∀ z : UInt8, (⟨#[z]⟩ : ByteArray).size = 1 from fun _ => rfl] at c28b1k_; (repeat rw [Nat.min_eq_left (by omega)] at c28b1k_); (try simp only [Nat.sub_zero] at c28b1k_); (try simp at c28b1k_)))
                        (try (have c29b1n_ := of_decide_eq_true c29b1; simp only [ByteArray.size_append, Int.natCast_add] at c29b1n_))
                        (try (have c29b1m_ := of_decide_eq_true c29b1; rw [ByteArray.size_extract, Nat.min_eq_left (by omega), Nat.sub_zero] at c29b1m_))
                        (try (have c29b1j_ := of_decide_eq_true c29b1; simp only [ByteArray.size_append, ByteArray.size_extract, show ∀ z : UInt8, (⟨#[z]⟩ : ByteArray).size = 1 from fun _ => rfl] at c29b1j_; (repeat rw [Nat.min_eq_left (by omega)] at c29b1j_); (try simp only [Nat.sub_zero] at c29b1j_); have c29b1f_ := eq_false (Nat.not_lt.2 c29b1j_)))
                        (try (have c29b1k_ := of_decide_eq_true c29b1; simp only [ByteArray.size_append, ByteArray.size_extract, show ∀ z : UInt8, (⟨#[z]⟩ : ByteArray).size = 1 from fun _ => rfl] at c29b1k_; (repeat rw [Nat.min_eq_left (by omega)] at c29b1k_); (try simp only [Nat.sub_zero] at c29b1k_); (try simp at c29b1k_)))
                        go_wp2
                        go_ret2
                        exact ⟨by first | rfl | (simp [errW_none, errW_some] <;> rfl) | (simp [*, errW_none, errW_some] <;> rfl), by repeat (first | (with_reducible first | exact HB.out | apply below_alloc | apply pw_below_drewN | apply below_drew1) | exact HB.out)⟩
                      · rw [if_neg c29] at H
                        exact absurd H (by simp)
                    · rw [if_neg c28] at H
                      exact absurd H (by simp)
          · rw [if_neg c11] at H
            exact absurd H (by simp)
        · rw [if_neg c8] at H
          exact absurd H (by simp)
  · replace c3 := Bool.eq_false_iff.mpr c3
    subst c3
    have H1 : (some ((⟨#[]⟩ : ByteArray), 2)) = some (r1, r2) := by rw [if_neg (show ¬ (false = true) by decide)] at H; exact H
    clear H
    have H := H1
    clear H1
    simp only [Option.some.injEq, Prod.mk.injEq] at H
    obtain ⟨rfl, rfl⟩ := H
    go_enter Tryd.func28, Tryd.ntmps28
    go_wp2_with (first | ((with_reducible refine gate_callee (f := 23) rfl ?_); refine goesL_ (some 7) rfl rfl Tryd.func23 (by kernel_rfl) rfl #[.int .i64 a0] rfl (by (try simp only [List.map_toArray, List.map_cons, List.map_nil]); first | done | rfl | (simp only [List.length_drop, List.length_take]; rfl) | (simp only [ByteArray.size_append, Int.natCast_add]; done) | (simp only [ByteArray.size_append, Int.natCast_add]; rfl) | (simp only [Array.mk.injEq, List.cons.injEq, Value.int.injEq, true_and, and_true]; (try simp only [mx, mn, wrap64] at *); omega)) ?_; (with_reducible refine (foolscapref01_Fits.calls a0 false _ A2.out).mono ?_); rintro e w' ⟨rfl, ⟨nd, rfl⟩⟩; refine ⟨_, rfl, ?_⟩))
    go_ret2
    exact ⟨by first | rfl | (simp [errW_none, errW_some] <;> rfl) | (simp [*, errW_none, errW_some] <;> rfl), by repeat (first | (with_reducible first | exact HB.out | apply below_alloc | apply pw_below_drewN | apply below_drew1) | exact HB.out)⟩

end Go.Proofs.YtdhieabmpkfdhaaDoor.Pr
