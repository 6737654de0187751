/-
  Lemmas for the law RFollowsRBack.
-/
import Derived.Test.YthnldbclbfpojaaGreatDoorSRFollowsRBack39
import Derived.Test.YthnldbclbfpojaaGreatDoorSRFollowsRBack40
import Derived.Test.YthnldbclbfpojaaGreatDoorSRFollowsRBack43
import Derived.Test.YthnldbclbfpojaaGreatDoorSRFollowsRBack13
import Derived.Test.YthnldbclbfpojaaGreatDoorSRFollowsRBack10
import Derived.Test.YthnldbclbfpojaaGreatDoorSRFollowsRBack12
import Derived.Test.YthnldbclbfpojaaGreatDoorSRFollowsRBack26
set_option maxHeartbeats 8000000
set_option maxRecDepth 100000
set_option linter.unusedVariables false
set_option linter.unusedSimpArgs false
section
namespace Go.Proofs.YthnldbclbfpojaaGreatDoor.Pr
open Go.RowKit Go.Proofs.YthnldbclbfpojaaGreatDoorW.PrintWords Go.Proofs.YthnldbclbfpojaaGreatDoorW.PrintLast Go.Proofs.YthnldbclbfpojaaGreatDoorW.PrintMore
def inB (q : S_R) (y x : Int) : Bool := rectB q.f0 q.f1 q.f2 q.f3 && (decide (q.f0 ≤ y) && (decide (y ≤ q.f2) && (decide (q.f1 ≤ x) && decide (x ≤ q.f3))))
def rgIn (y x : Int) (n : Nd) : Bool := rgB n && inB (rcS n) y x
theorem any_out (y x : Int) : ∀ (l : List Nd) (o : List S_R), (l.foldl addS o).any (fun q => inB q y x) = (o.any (fun q => inB q y x) || l.any (rgIn y x))
 | [], o => by simp
 | n :: r, o => by
  rw [List.foldl_cons, any_out y x r, List.any_cons, ← Bool.or_assoc]
  congr 1
  unfold addS rgIn
  by_cases h : rgB n = true
  ·rw [if_pos h, h, Bool.true_and]
   by_cases hm : rcS n ∈ o
   ·rw [if_pos hm]
    cases hi : inB (rcS n) y x
    ·simp
    ·rw [Bool.or_true]
     exact List.any_eq_true.2 ⟨_, hm, hi⟩
   ·rw [if_neg hm, List.any_append]
    simp
  ·rw [if_neg h, Bool.eq_false_iff.2 h]
   simp
theorem any_outS (y x : Int) (l : List Nd) : (outS l).any (fun q => inB q y x) = l.any (rgIn y x) := by
 unfold outS
 rw [any_out]; simp
theorem line_left {a b c : Int} (he : edB a b c = true) {t o y : Int} (h1 : 1 ≤ t) (h2 : t ≤ o) (h3 : o ≤ mostI a) (h4 : 1 ≤ y) (h5 : y ≤ mostI a) (hf : stepF a b c y = 0) :
  (((leftS a b c t o).1 = 0 ∧ (leftS a b c t o).2 = 0) → ¬(t ≤ y ∧ y ≤ o)) ∧
  (¬((leftS a b c t o).1 = 0 ∧ (leftS a b c t o).2 = 0) → 1 ≤ (leftS a b c t o).1 ∧ (leftS a b c t o).1 ≤ (leftS a b c t o).2 ∧ (leftS a b c t o).2 ≤ mostI a ∧ ((t ≤ y ∧ y ≤ o) ↔ ((leftS a b c t o).1 ≤ stepV a b c y ∧ stepV a b c y ≤ (leftS a b c t o).2))) := by
 have hm := mostI_bd a
 simp only [edB, Bool.and_eq_true, decide_eq_true_eq] at he
 obtain ⟨_, _, hb1, hb2, hc1, hc2⟩ := he
 have w1 : IntKind.i64.wrap (y + c) = y + c := wrapI (by omega) (by omega)
 have w2 : IntKind.i64.wrap (y - c) = y - c := wrapI (by omega) (by omega)
 have w3 : IntKind.i64.wrap (t + c) = t + c := wrapI (by omega) (by omega)
 have w4 : IntKind.i64.wrap (o + c) = o + c := wrapI (by omega) (by omega)
 have w5 : wrap64 (b + c) = b + c := by unfold wrap64; omega
 have w6 : wrap64 (b - 1) = b - 1 := by unfold wrap64; omega
 have w7 : IntKind.i64.wrap (b - 1) = b - 1 := wrapI (by omega) (by omega)
 have w8 : wrap64 (t - c) = t - c := by unfold wrap64; omega
 have w9 : wrap64 (o - c) = o - c := by unfold wrap64; omega
 have z02 : ((0 : Int) = 2) = False := by simp
 unfold stepF at hf
 unfold leftS stepF stepV downV
 rw [w1, w2] at hf ⊢
 rw [w3, w4, w5, w6, w7, w8, w9]
 generalize mostI a = M at *
 generalize insB a = z at hf ⊢
 cases z
 ·simp only [Bool.false_eq_true, if_false] at hf ⊢
  by_cases k3 : y < b <;> by_cases k6 : y - c < b <;> by_cases k1 : t < b <;> by_cases k2 : o < b <;> by_cases k4 : t < b + c <;> by_cases k5 : o < b + c <;> (by_cases k7 : b ≤ t) <;> simp only [k1, k2, k3, k4, k5, k6, k7, if_true, if_false, and_true, and_false, true_and, false_and] at hf ⊢ <;> first | done | omega | (refine ⟨fun hz => ?_, fun hz => ?_⟩ <;> (try simp only [not_true_eq_false] at hz) <;> first | done | omega)
 ·simp only [if_true] at hf ⊢
  by_cases k3 : y < b <;> by_cases k6 : y + c > M <;> by_cases k1 : t < b <;> by_cases k2 : o < b <;> by_cases k4 : t + c > M <;> by_cases k5 : o + c > M <;> by_cases k7 : b + c > M <;> (simp only [z02, k1, k2, k3, k4, k5, k6, k7, if_true, if_false] at hf ⊢; try (first | done | omega | (simp only [true_implies, not_true_eq_false, false_implies, and_true, true_and] <;> first | done | omega | (refine ⟨fun hz => ?_, fun hz => ?_⟩ <;> first | omega | trace_state))))
theorem line_rest {a b c : Int} (he : edB a b c = true) {t o : Int} (h1 : 1 ≤ t) (h2 : t ≤ o) (h3 : o ≤ mostI a) :
  ¬((leftS a b c t o).1 = 0 ∧ (leftS a b c t o).2 = 0) → 1 ≤ (leftS a b c t o).1 ∧ (leftS a b c t o).1 ≤ (leftS a b c t o).2 ∧ (leftS a b c t o).2 ≤ mostI a := by
 have hm := mostI_bd a
 simp only [edB, Bool.and_eq_true, decide_eq_true_eq] at he
 obtain ⟨_, _, hb1, hb2, hc1, hc2⟩ := he
 have w3 : IntKind.i64.wrap (t + c) = t + c := wrapI (by omega) (by omega)
 have w4 : IntKind.i64.wrap (o + c) = o + c := wrapI (by omega) (by omega)
 have w5 : wrap64 (b + c) = b + c := by unfold wrap64; omega
 have w6 : wrap64 (b - 1) = b - 1 := by unfold wrap64; omega
 have w7 : IntKind.i64.wrap (b - 1) = b - 1 := wrapI (by omega) (by omega)
 have w8 : wrap64 (t - c) = t - c := by unfold wrap64; omega
 have w9 : wrap64 (o - c) = o - c := by unfold wrap64; omega
 have z02 : ((0 : Int) = 2) = False := by simp
 unfold leftS stepF stepV downV
 rw [w3, w4, w5, w6, w7, w8, w9]
 generalize mostI a = M at *
 generalize insB a = z at ⊢
 cases z
 ·simp only [Bool.false_eq_true, if_false] at ⊢
  by_cases k1 : t < b <;> by_cases k2 : o < b <;> by_cases k4 : t < b + c <;> by_cases k5 : o < b + c <;> (by_cases k7 : b ≤ t) <;> simp only [k1, k2, k4, k5, k7, if_true, if_false, and_true, and_false, true_and, false_and] <;> (intro hz; try (first | done | omega | (simp only [not_true_eq_false, and_self] at hz; done) | exact absurd ⟨rfl, rfl⟩ hz))
 ·simp only [if_true] at ⊢
  by_cases k1 : t < b <;> by_cases k2 : o < b <;> by_cases k4 : t + c > M <;> by_cases k5 : o + c > M <;> by_cases k7 : b + c > M <;> simp only [z02, k1, k2, k4, k5, k7, if_true, if_false] <;> (intro hz; try (first | done | omega | (simp only [not_true_eq_false, and_self] at hz; done) | exact absurd ⟨rfl, rfl⟩ hz))
theorem line_step {a b c : Int} (he : edB a b c = true) {t y : Int} (h1 : 1 ≤ t) (h3 : t ≤ mostI a) (h4 : 1 ≤ y) (h5 : y ≤ mostI a) (hf : stepF a b c y = 0) :
  (stepF a b c t ≠ 0 → t ≠ y) ∧ (stepF a b c t = 0 → 1 ≤ stepV a b c t ∧ stepV a b c t ≤ mostI a ∧ (t = y ↔ stepV a b c t = stepV a b c y)) := by
 have hm := mostI_bd a
 simp only [edB, Bool.and_eq_true, decide_eq_true_eq] at he
 obtain ⟨_, _, hb1, hb2, hc1, hc2⟩ := he
 have w1 : IntKind.i64.wrap (y + c) = y + c := wrapI (by omega) (by omega)
 have w2 : IntKind.i64.wrap (y - c) = y - c := wrapI (by omega) (by omega)
 have w3 : IntKind.i64.wrap (t + c) = t + c := wrapI (by omega) (by omega)
 have w4 : IntKind.i64.wrap (t - c) = t - c := wrapI (by omega) (by omega)
 have z02 : ((2 : Int) = 0) = False := by simp
 have z01 : ((1 : Int) = 0) = False := by simp
 unfold stepF at hf
 unfold stepF stepV
 rw [w1, w2] at hf ⊢
 rw [w3, w4]
 generalize mostI a = M at *
 generalize insB a = z at hf ⊢
 cases z
 ·simp only [Bool.false_eq_true, if_false] at hf ⊢
  by_cases k3 : y < b <;> by_cases k6 : y - c < b <;> by_cases k1 : t < b <;> by_cases k2 : t - c < b <;> (simp only [z01, z02, k1, k2, k3, k6, if_true, if_false] at hf ⊢; try (first | done | omega | (refine ⟨fun hz => ?_, fun hz => ?_⟩ <;> first | done | omega | exact absurd rfl hz | exact hz.elim | (refine ⟨by omega, by omega, ?_⟩; first | trivial | omega) | trace_state)))
 ·simp only [if_true] at hf ⊢
  by_cases k3 : y < b <;> by_cases k6 : y + c > M <;> by_cases k1 : t < b <;> by_cases k2 : t + c > M <;> (simp only [z01, z02, k1, k2, k3, k6, if_true, if_false] at hf ⊢; try (first | done | omega | (refine ⟨fun hz => ?_, fun hz => ?_⟩ <;> first | done | omega | exact absurd rfl hz | exact hz.elim | (refine ⟨by omega, by omega, ?_⟩; first | trivial | omega) | trace_state)))
theorem inB_iff (t l o r y x : Int) : inB ⟨t, l, o, r⟩ y x = true ↔ ((1 ≤ t ∧ t ≤ 1048576 ∧ 1 ≤ l ∧ l ≤ 16384) ∧ (1 ≤ o ∧ o ≤ 1048576 ∧ 1 ≤ r ∧ r ≤ 16384) ∧ t ≤ o ∧ l ≤ r) ∧ t ≤ y ∧ y ≤ o ∧ l ≤ x ∧ x ≤ r := by
 simp only [inB, rectB, placeB, Bool.and_eq_true, decide_eq_true_eq]
theorem mostI_rows {a : Int} (h : rowsB a = true) : mostI a = 1048576 := by unfold mostI; rw [if_pos h]
theorem mostI_cols {a : Int} (h : rowsB a = false) : mostI a = 16384 := by unfold mostI; rw [if_neg (by rw [h]; simp)]
theorem spotS_ok {a b c r k : Int} (h : placeB r k = true) (he : edB a b c = true) : spotS a b c r k =
    (if rowsB a = true then (if stepF a b c r = 0 then ((stepV a b c r, k), 0, 0) else ((0, 0), stepF a b c r, 0))
     else (if stepF a b c k = 0 then ((r, stepV a b c k), 0, 0) else ((0, 0), stepF a b c k, 0))) := if_pos ⟨h, he⟩
theorem cell_in {a b c r k y x : Int} (he : edB a b c = true) (hp : placeB y x = true) (hs : (spotS a b c y x).2.1 = 0) (h : placeB r k = true) :
  inB ⟨r, k, r, k⟩ y x = ((spotS a b c r k).2.1 == 0 && inB ⟨(spotS a b c r k).1.1, (spotS a b c r k).1.2, (spotS a b c r k).1.1, (spotS a b c r k).1.2⟩ (spotS a b c y x).1.1 (spotS a b c y x).1.2) := by
 have b1 := place_bd hp
 have b2 := place_bd h
 rw [spotS_ok hp he] at hs ⊢
 rw [spotS_ok h he]
 rw [Bool.eq_iff_iff, Bool.and_eq_true, inB_iff, inB_iff]
 cases hr : rowsB a with
 | true =>
  rw [hr] at hs
  have hm := mostI_rows hr
  simp only [if_true] at hs ⊢
  by_cases hf : stepF a b c y = 0
  ·have L := line_step he (t := r) (y := y) (by omega) (by omega) (by omega) (by omega) hf
   rw [if_pos hf]
   by_cases hg : stepF a b c r = 0
   ·rw [if_pos hg]
    have L2 := L.2 hg
    simp only [beq_self_eq_true, true_and]
    omega
   ·rw [if_neg hg]
    have L1 := L.1 hg
    simp only [beq_iff_eq]
    omega
  ·rw [if_neg hf] at hs
   exact absurd hs hf
 | false =>
  rw [hr] at hs
  have hm := mostI_cols hr
  simp only [Bool.false_eq_true, if_false] at hs ⊢
  by_cases hf : stepF a b c x = 0
  ·have L := line_step he (t := k) (y := x) (by omega) (by omega) (by omega) (by omega) hf
   rw [if_pos hf]
   by_cases hg : stepF a b c k = 0
   ·rw [if_pos hg]
    have L2 := L.2 hg
    simp only [beq_self_eq_true, true_and]
    omega
   ·rw [if_neg hg]
    have L1 := L.1 hg
    simp only [beq_iff_eq]
    omega
  ·rw [if_neg hf] at hs
   exact absurd hs hf
theorem spot_place {a b c r k : Int} (he : edB a b c = true) (h : placeB r k = true) (hs : (spotS a b c r k).2.1 = 0) : placeB (spotS a b c r k).1.1 (spotS a b c r k).1.2 = true := by
 have b2 := place_bd h
 rw [spotS_ok h he] at hs ⊢
 cases hr : rowsB a with
 | true =>
  rw [hr] at hs
  have hm := mostI_rows hr
  simp only [if_true] at hs ⊢
  by_cases hf : stepF a b c r = 0
  ·have L := (line_step he (t := r) (y := r) (by omega) (by omega) (by omega) (by omega) hf).2 hf
   rw [if_pos hf]
   simp only [placeB, Bool.and_eq_true, decide_eq_true_eq]
   omega
  ·rw [if_neg hf] at hs
   exact absurd hs hf
 | false =>
  rw [hr] at hs
  have hm := mostI_cols hr
  simp only [Bool.false_eq_true, if_false] at hs ⊢
  by_cases hf : stepF a b c k = 0
  ·have L := (line_step he (t := k) (y := k) (by omega) (by omega) (by omega) (by omega) hf).2 hf
   rw [if_pos hf]
   simp only [placeB, Bool.and_eq_true, decide_eq_true_eq]
   omega
  ·rw [if_neg hf] at hs
   exact absurd hs hf
theorem rect_in {a b c t l o r y x : Int} (he : edB a b c = true) (hp : placeB y x = true) (hs : (spotS a b c y x).2.1 = 0) (h : rectB t l o r = true) :
  inB ⟨t, l, o, r⟩ y x = ((rectS a b c t l o r).2.1 && inB ⟨(rectS a b c t l o r).1.t, (rectS a b c t l o r).1.l, (rectS a b c t l o r).1.o, (rectS a b c t l o r).1.r⟩ (spotS a b c y x).1.1 (spotS a b c y x).1.2)
  ∧ ((rectS a b c t l o r).2.1 = true → rectB (rectS a b c t l o r).1.t (rectS a b c t l o r).1.l (rectS a b c t l o r).1.o (rectS a b c t l o r).1.r = true) := by
 have b1 := place_bd hp
 have b2 := h
 simp only [rectB, placeB, Bool.and_eq_true, decide_eq_true_eq] at b2
 unfold rectS
 rw [if_pos ⟨he, h⟩]
 rw [spotS_ok hp he] at hs ⊢
 rw [Bool.eq_iff_iff, Bool.and_eq_true, inB_iff]
 cases hr : rowsB a with
 | true =>
  rw [hr] at hs
  have hm := mostI_rows hr
  simp only [if_true] at hs ⊢
  by_cases hf : stepF a b c y = 0
  ·have L := line_left he (t := t) (o := o) (y := y) (by omega) (by omega) (by omega) (by omega) (by omega) hf
   rw [if_pos hf]
   generalize leftS a b c t o = z at L ⊢
   obtain ⟨z1, z2⟩ := z
   simp only at L ⊢
   by_cases hz : z1 = 0 ∧ z2 = 0
   ·have L1 := L.1 hz
    rw [if_pos (by rw [hz.1, hz.2]; rfl)]
    simp only [Bool.false_eq_true, false_and, iff_false, false_implies, and_true]
    omega
   ·have L2 := L.2 hz
    rw [if_neg (by simpa using hz)]
    simp only [inB_iff, rectB, placeB, Bool.and_eq_true, decide_eq_true_eq, true_and, forall_const]
    omega
  ·rw [if_neg hf] at hs
   exact absurd hs hf
 | false =>
  rw [hr] at hs
  have hm := mostI_cols hr
  simp only [Bool.false_eq_true, if_false] at hs ⊢
  by_cases hf : stepF a b c x = 0
  ·have L := line_left he (t := l) (o := r) (y := x) (by omega) (by omega) (by omega) (by omega) (by omega) hf
   rw [if_pos hf]
   generalize leftS a b c l r = z at L ⊢
   obtain ⟨z1, z2⟩ := z
   simp only at L ⊢
   by_cases hz : z1 = 0 ∧ z2 = 0
   ·have L1 := L.1 hz
    rw [if_pos (by rw [hz.1, hz.2]; rfl)]
    simp only [Bool.false_eq_true, false_and, iff_false, false_implies, and_true]
    omega
   ·have L2 := L.2 hz
    rw [if_neg (by simpa using hz)]
    simp only [inB_iff, rectB, placeB, Bool.and_eq_true, decide_eq_true_eq, true_and, forall_const]
    omega
  ·rw [if_neg hf] at hs
   exact absurd hs hf
theorem rect_right {a b c t l o r : Int} (he : edB a b c = true) (h : rectB t l o r = true) (hz : (rectS a b c t l o r).2.1 = true) :
  rectB (rectS a b c t l o r).1.t (rectS a b c t l o r).1.l (rectS a b c t l o r).1.o (rectS a b c t l o r).1.r = true := by
 have b2 := h
 simp only [rectB, placeB, Bool.and_eq_true, decide_eq_true_eq] at b2
 unfold rectS at hz ⊢
 rw [if_pos ⟨he, h⟩] at hz ⊢
 cases hr : rowsB a with
 | true =>
  rw [hr] at hz
  have hm := mostI_rows hr
  simp only [if_true] at hz ⊢
  have L := line_rest he (t := t) (o := o) (by omega) (by omega) (by omega)
  generalize leftS a b c t o = z at L hz ⊢
  obtain ⟨z1, z2⟩ := z
  simp only at L hz ⊢
  by_cases hw : z1 = 0 ∧ z2 = 0
  ·rw [if_pos (by rw [hw.1, hw.2]; rfl)] at hz; cases hz
  ·have L2 := L hw
   rw [if_neg (by simpa using hw)]
   simp only [rectB, placeB, Bool.and_eq_true, decide_eq_true_eq]
   omega
 | false =>
  rw [hr] at hz
  have hm := mostI_cols hr
  simp only [Bool.false_eq_true, if_false] at hz ⊢
  have L := line_rest he (t := l) (o := r) (by omega) (by omega) (by omega)
  generalize leftS a b c l r = z at L hz ⊢
  obtain ⟨z1, z2⟩ := z
  simp only at L hz ⊢
  by_cases hw : z1 = 0 ∧ z2 = 0
  ·rw [if_pos (by rw [hw.1, hw.2]; rfl)] at hz; cases hz
  ·have L2 := L hw
   rw [if_neg (by simpa using hw)]
   simp only [rectB, placeB, Bool.and_eq_true, decide_eq_true_eq]
   omega
theorem rgIn_2 (y x : Int) (n : Nd) (h : n.f0 = 2) (hc : cellB n.f2 = true) : rgIn y x n = inB ⟨n.f2.f0.f0, n.f2.f0.f1, n.f2.f0.f0, n.f2.f0.f1⟩ y x := by
 have hc' : placeB n.f2.f0.f0 n.f2.f0.f1 = true := hc
 unfold rgIn rgB rcS fR
 rw [h, if_neg (by omega)]
 unfold ofS
 rw [if_pos ⟨hc', hc'⟩]
 simp [mn, mx]
theorem rgIn_3 (y x : Int) (n : Nd) (h : n.f0 = 3) : rgIn y x n = inB ⟨(ofS n.f2.f0.f0 n.f2.f0.f1 n.f3.f0.f0 n.f3.f0.f1).t, (ofS n.f2.f0.f0 n.f2.f0.f1 n.f3.f0.f0 n.f3.f0.f1).l, (ofS n.f2.f0.f0 n.f2.f0.f1 n.f3.f0.f0 n.f3.f0.f1).o, (ofS n.f2.f0.f0 n.f2.f0.f1 n.f3.f0.f0 n.f3.f0.f1).r⟩ y x := by
 unfold rgIn rgB rcS fR
 rw [h, if_pos rfl]
 rfl
theorem rgIn_no (y x : Int) (n : Nd) (h2 : ¬n.f0 = 2) (h3 : ¬n.f0 = 3) : rgIn y x n = false := by
 unfold rgIn rgB
 simp [h2, h3]
theorem ofS_mov {a b d : Int} (p q : Ce) (h : rectB (movR a b d p q).1.t (movR a b d p q).1.l (movR a b d p q).1.o (movR a b d p q).1.r = true) :
  ofS (movX a b d p q).f0.f0 (movX a b d p q).f0.f1 (movY a b d p q).f0.f0 (movY a b d p q).f0.f1 = (movR a b d p q).1 := by
 unfold movX movY
 generalize (movR a b d p q).1 = R at h ⊢
 obtain ⟨t, l, o, r⟩ := R
 have hb := h
 simp only [rectB, placeB, Bool.and_eq_true, decide_eq_true_eq] at hb
 simp only
 unfold ofS
 by_cases h1 : p.f0.f0 ≤ q.f0.f0 <;> by_cases h2 : p.f0.f1 ≤ q.f0.f1 <;> simp only [h1, h2, if_true, if_false]
 all_goals
  rw [if_pos (by simp only [placeB, Bool.and_eq_true, decide_eq_true_eq]; omega)]
  simp only [mn, mx, Rc.mk.injEq]
  omega
section
variable {a b d y x : Int} (he : edB a b d = true) (hp : placeB y x = true) (hs : (spotS a b d y x).2.1 = 0)
include he hp hs
theorem head_in (n : Nd) (hq : spotB n = true) (hl : leafB n = true) (hk : n.f0 = 2 ∨ n.f0 = 3) : rgIn y x n = (preN (moveS a b d n)).any (rgIn (spotS a b d y x).1.1 (spotS a b d y x).1.2) := by
 have hl0 := leaf_nil hl hk
 obtain ⟨k, v, c, t, s, l⟩ := n
 simp only at hl0 hk
 subst hl0
 unfold moveS
 rw [wayS]
 have hno : (preN lostN).any (rgIn (spotS a b d y x).1.1 (spotS a b d y x).1.2) = false := by
  rw [lostN, preN, preL, List.any_cons, List.any_nil, Bool.or_false]
  exact rgIn_no _ _ _ (by show ¬(1 : Int) = 2; omega) (by show ¬(1 : Int) = 3; omega)
 unfold spotB at hq
 by_cases e2 : k = 2
 ·rw [if_pos e2] at hq ⊢
  have H := cell_in he hp hs hq
  rw [rgIn_2 _ _ _ e2 hq]
  unfold way1 movB
  simp only at H ⊢
  rw [H]
  by_cases hz : (spotS a b d c.f0.f0 c.f0.f1).2.1 = 0
  ·rw [hz, beq_self_eq_true, if_pos rfl, Bool.true_and]
   rw [preN, wayL, preL, List.any_cons, List.any_nil, Bool.or_false]
   have hc : cellB (movC a b d c) = true := spot_place he hq hz
   rw [rgIn_2 _ _ _ e2 hc]; rfl
  ·rw [show ((spotS a b d c.f0.f0 c.f0.f1).2.1 == 0) = false from by simpa using hz, Bool.false_and, if_neg (by simp), hno]
 ·have e3 : k = 3 := by rcases hk with h | h; exact absurd h e2; exact h
  rw [if_neg e2, if_pos e3] at hq ⊢
  rw [Bool.and_eq_true] at hq
  have H := rect_in he hp hs (ofS_rect hq.1 hq.2)
  rw [rgIn_3 _ _ _ e3]
  unfold way2
  simp only at H ⊢
  rw [H.1]
  have H2 := H.2
  clear H
  by_cases hz : (movR a b d c t).2.1 = true
  ·rw [if_pos hz]
   show ((movR a b d c t).2.1 && _) = _
   rw [hz, Bool.true_and]
   show _ = (preN ⟨k, v, movX a b d c t, movY a b d c t, s, wayL _ _ []⟩).any _
   rw [preN, wayL, preL, List.any_cons, List.any_nil, Bool.or_false, rgIn_3 _ _ _ e3]
   simp only
   rw [ofS_mov c t (H2 hz)]
   rfl
  ·rw [if_neg hz]
   show ((movR a b d c t).2.1 && _) = _
   rw [Bool.eq_false_iff.2 hz, Bool.false_and]
   exact hno.symm
end
mutual
theorem form_in {a b d y x : Int} (he : edB a b d = true) (hp : placeB y x = true) (hs : (spotS a b d y x).2.1 = 0) : ∀ n : Nd, allS spotB n = true → allS leafB n = true →
  (preN n).any (rgIn y x) = (preN (moveS a b d n)).any (rgIn (spotS a b d y x).1.1 (spotS a b d y x).1.2)
 | ⟨k, v, c, t, s, l⟩, hq, hl => by
  have hq1 := (allS_kid hq).1
  have hl1 := (allS_kid hl).1
  rw [allS, Bool.and_eq_true] at hq hl
  by_cases hk : k = 2 ∨ k = 3
  ·rw [← head_in he hp hs _ hq1 hl1 hk]
   have e := leaf_nil hl1 hk
   simp only at e
   subst e
   rw [preN, preL, List.any_cons, List.any_nil, Bool.or_false]
  ·have k2 : ¬k = 2 := fun h => hk (.inl h)
   have k3 : ¬k = 3 := fun h => hk (.inr h)
   unfold moveS
   rw [wayS, if_neg k2, if_neg k3, preN, preN, List.any_cons, List.any_cons, rgIn_no _ _ _ k2 k3, rgIn_no _ _ _ k2 k3, Bool.false_or, Bool.false_or]
   exact form_inL he hp hs l hq.2 hl.2
theorem form_inL {a b d y x : Int} (he : edB a b d = true) (hp : placeB y x = true) (hs : (spotS a b d y x).2.1 = 0) : ∀ l : List Nd, allL spotB l = true → allL leafB l = true →
  (preL l).any (rgIn y x) = (preL (wayL (way1 (movC a b d) (movB a b d)) (way2 (movX a b d) (movY a b d) (fun p q => (movR a b d p q).2.1)) l)).any (rgIn (spotS a b d y x).1.1 (spotS a b d y x).1.2)
 | [], _, _ => by rw [wayL, preL]; rfl
 | z :: r, hq, hl => by
  rw [allL, Bool.and_eq_true] at hq hl
  rw [wayL, preL, preL, List.any_append, List.any_append, form_in he hp hs z hq.1 hl.1, form_inL he hp hs r hq.2 hl.2]
  rfl
end
theorem move_check {a b d : Int} (he : edB a b d = true) {n : Nd} (h : checkI n = 0) : checkI (moveS a b d n) = 0 := by
 refine wayA_check (fun c c' hc hw => ?_) (fun c t p hc ht hw => ?_) n h
 ·unfold way1 at hw
  by_cases hz : movB a b d c = true
  ·rw [if_pos hz] at hw
   cases hw
   exact spot_place he hc (by simpa [movB] using hz)
  ·rw [if_neg hz] at hw; cases hw
 ·unfold way2 at hw
  by_cases hz : (movR a b d c t).2.1 = true
  ·rw [if_pos hz] at hw
   cases hw
   have hR : rectB (movR a b d c t).1.t (movR a b d c t).1.l (movR a b d c t).1.o (movR a b d c t).1.r = true := rect_right he (ofS_rect hc ht) hz
   simp only [rectB, placeB, Bool.and_eq_true, decide_eq_true_eq] at hR
   refine ⟨?_, ?_⟩
   ·show placeB (if c.f0.f0 ≤ t.f0.f0 then (movR a b d c t).1.t else (movR a b d c t).1.o) (if c.f0.f1 ≤ t.f0.f1 then (movR a b d c t).1.l else (movR a b d c t).1.r) = true
    simp only [placeB, Bool.and_eq_true, decide_eq_true_eq]
    split <;> split <;> omega
   ·show placeB (if c.f0.f0 ≤ t.f0.f0 then (movR a b d c t).1.o else (movR a b d c t).1.t) (if c.f0.f1 ≤ t.f0.f1 then (movR a b d c t).1.r else (movR a b d c t).1.l) = true
    simp only [placeB, Bool.and_eq_true, decide_eq_true_eq]
    split <;> split <;> omega
  ·rw [if_neg hz] at hw; cases hw
theorem follows_in {a b d y x : Int} (he : edB a b d = true) (hp : placeB y x = true) (hs : (spotS a b d y x).2.1 = 0) {n : Nd} (h : checkI n = 0) :
  (outS (preN n)).any (fun q => inB q y x) = (outS (preN (moveS a b d n))).any (fun q => inB q (spotS a b d y x).1.1 (spotS a b d y x).1.2) := by
 rw [any_outS, any_outS]
 exact form_in he hp hs n (spot_of_check h) (leaf_of_check h)
theorem ins_kinds {a : Int} (h : insB a = true) : a = 1 ∨ a = 3 := by
 unfold insB at h
 simpa using h
theorem back_ed {a b c : Int} (hi : insB a = true) (he : edB a b c = true) : edB (a + 1) b c = true ∧ insB (a + 1) = false ∧ rowsB (a + 1) = rowsB a ∧ mostI (a + 1) = mostI a := by
 rcases ins_kinds hi with rfl | rfl
 ·refine ⟨?_, rfl, rfl, rfl⟩
  simp only [edB, show mostI ((1 : Int) + 1) = mostI 1 from rfl, Bool.and_eq_true, decide_eq_true_eq] at he ⊢
  omega
 ·refine ⟨?_, rfl, rfl, rfl⟩
  simp only [edB, show mostI ((3 : Int) + 1) = mostI 3 from rfl, Bool.and_eq_true, decide_eq_true_eq] at he ⊢
  omega
theorem line_back {a b c t : Int} (hi : insB a = true) (he : edB a b c = true) (h1 : 1 ≤ t) (h2 : t ≤ mostI a) (hf : stepF a b c t = 0) :
  stepF (a + 1) b c (stepV a b c t) = 0 ∧ stepV (a + 1) b c (stepV a b c t) = t ∧ 1 ≤ stepV a b c t ∧ stepV a b c t ≤ mostI a := by
 obtain ⟨he2, hn, hr, hm2⟩ := back_ed hi he
 have hm := mostI_bd a
 simp only [edB, Bool.and_eq_true, decide_eq_true_eq] at he
 obtain ⟨_, _, hb1, hb2, hc1, hc2⟩ := he
 have w3 : IntKind.i64.wrap (t + c) = t + c := wrapI (by omega) (by omega)
 have w4 : IntKind.i64.wrap (t + c - c) = t := by rw [show t + c - c = t by omega]; exact wrapI (by omega) (by omega)
 unfold stepF at hf
 unfold stepF stepV
 rw [hi, hn, hm2]
 rw [hi] at hf
 simp only [if_true, Bool.false_eq_true, if_false] at hf ⊢
 by_cases k1 : t < b
 ·simp only [if_pos k1]
  exact ⟨trivial, trivial, by omega, by omega⟩
 ·rw [if_neg k1, w3] at hf
  by_cases k2 : t + c > mostI a
  ·rw [if_pos k2] at hf; omega
  ·simp only [if_neg k1, w3, w4]
   rw [if_neg (show ¬t + c < b by omega), if_neg (show ¬t + c < b by omega)]
   exact ⟨rfl, rfl, by omega, by omega⟩
theorem left_back {a b c t o : Int} (hi : insB a = true) (he : edB a b c = true) (h1 : 1 ≤ t) (h2 : t ≤ o) (h3 : o ≤ mostI a) (hf : stepF a b c o = 0) :
  leftS a b c t o = (stepV a b c t, stepV a b c o) ∧ leftS (a + 1) b c (stepV a b c t) (stepV a b c o) = (t, o) := by
 obtain ⟨he2, hn, hr, hm2⟩ := back_ed hi he
 have hm := mostI_bd a
 simp only [edB, Bool.and_eq_true, decide_eq_true_eq] at he
 obtain ⟨_, _, hb1, hb2, hc1, hc2⟩ := he
 have w1 : IntKind.i64.wrap (o + c) = o + c := wrapI (by omega) (by omega)
 have w3 : IntKind.i64.wrap (t + c) = t + c := wrapI (by omega) (by omega)
 have w5 : wrap64 (b + c) = b + c := by unfold wrap64; omega
 have w6 : wrap64 (t + c - c) = t := by unfold wrap64; omega
 have w7 : wrap64 (o + c - c) = o := by unfold wrap64; omega
 unfold stepF at hf
 rw [hi] at hf
 unfold leftS stepF stepV downV
 rw [hi, hn]
 simp only [if_true, Bool.false_eq_true, if_false] at hf ⊢
 rw [w1] at hf
 rw [w1, w3, w5]
 by_cases k1 : o < b
 ·have k2 : t < b := by omega
  simp only [if_pos k1, if_pos k2]
  refine ⟨rfl, ?_⟩
  rw [if_neg (by omega)]
 ·rw [if_neg k1] at hf
  have k3 : ¬o + c > mostI a := by intro h; rw [if_pos h] at hf; omega
  by_cases k2 : t < b
  ·simp only [if_pos k2, if_neg k1, if_neg k3]
   refine ⟨rfl, ?_⟩
   rw [if_neg (by omega), if_neg (by omega), if_neg (by omega), w7]
  ·have k4 : ¬t + c > mostI a := by omega
   simp only [if_neg k2, if_neg k1, if_neg k3, if_neg k4]
   refine ⟨rfl, ?_⟩
   rw [if_neg (by omega), if_neg (by omega), if_neg (by omega), if_neg (by omega), if_neg (by omega), w6, w7]
def farS (a : Int) (q : S_R) : Int := if rowsB a = true then q.f2 else q.f3
theorem cell_back {a b c r k : Int} (hi : insB a = true) (he : edB a b c = true) (hp : placeB r k = true) (hs : stepF a b c (if rowsB a = true then r else k) = 0) :
  (spotS a b c r k).2.1 = 0 ∧ spotS (a + 1) b c (spotS a b c r k).1.1 (spotS a b c r k).1.2 = ((r, k), 0, 0) := by
 obtain ⟨he2, hn, hr, hm2⟩ := back_ed hi he
 have b2 := place_bd hp
 rw [spotS_ok hp he]
 cases hq : rowsB a with
 | true =>
  rw [hq, if_pos rfl] at hs
  have hm := mostI_rows hq
  obtain ⟨l1, l2, l3, l4⟩ := line_back hi he (t := r) (by omega) (by omega) hs
  rw [if_pos rfl, if_pos hs]
  refine ⟨rfl, ?_⟩
  have hp2 : placeB (stepV a b c r) k = true := by simp only [placeB, Bool.and_eq_true, decide_eq_true_eq]; omega
  show spotS (a + 1) b c (stepV a b c r) k = _
  rw [spotS_ok hp2 he2, hr, hq, if_pos rfl, if_pos l1, l2]
 | false =>
  rw [hq, if_neg (by simp)] at hs
  have hm := mostI_cols hq
  obtain ⟨l1, l2, l3, l4⟩ := line_back hi he (t := k) (by omega) (by omega) hs
  rw [if_neg (by simp), if_pos hs]
  refine ⟨rfl, ?_⟩
  have hp2 : placeB r (stepV a b c k) = true := by simp only [placeB, Bool.and_eq_true, decide_eq_true_eq]; omega
  show spotS (a + 1) b c r (stepV a b c k) = _
  rw [spotS_ok hp2 he2, hr, hq, if_neg (by simp), if_pos l1, l2]
theorem stepV_le {a b c t o : Int} (hi : insB a = true) (he : edB a b c = true) (h1 : 1 ≤ t) (h2 : t ≤ o) (h3 : o ≤ mostI a) (hf : stepF a b c o = 0) : stepF a b c t = 0 ∧ stepV a b c t ≤ stepV a b c o ∧ 0 < stepV a b c t ∧ (t < o → stepV a b c t < stepV a b c o) := by
 have hm := mostI_bd a
 simp only [edB, Bool.and_eq_true, decide_eq_true_eq] at he
 obtain ⟨_, _, hb1, hb2, hc1, hc2⟩ := he
 have w1 : IntKind.i64.wrap (o + c) = o + c := wrapI (by omega) (by omega)
 have w3 : IntKind.i64.wrap (t + c) = t + c := wrapI (by omega) (by omega)
 unfold stepF at hf
 unfold stepF stepV
 rw [hi] at hf ⊢
 rw [if_pos rfl, w1] at hf
 rw [if_pos rfl, if_pos rfl, if_pos rfl, w1, w3]
 by_cases k1 : o < b
 ·have k2 : t < b := by omega
  rw [if_pos k2, if_pos k2, if_pos k1]
  omega
 ·rw [if_neg k1] at hf
  have k3 : ¬o + c > mostI a := by intro h; rw [if_pos h] at hf; omega
  by_cases k2 : t < b
  ·rw [if_pos k2, if_pos k2, if_neg k1]
   omega
  ·rw [if_neg k2, if_neg k2, if_neg k1, if_neg (by omega)]
   omega
theorem rect_back {a b c t l o r : Int} (hi : insB a = true) (he : edB a b c = true) (h : rectB t l o r = true) (hs : stepF a b c (if rowsB a = true then o else r) = 0) :
  ∃ R : Rc, rectS a b c t l o r = (R, true, 0) ∧ rectS (a + 1) b c R.t R.l R.o R.r = (⟨t, l, o, r⟩, true, 0) ∧ (t < o → R.t < R.o) ∧ (l < r → R.l < R.r) ∧ R.t ≤ R.o ∧ R.l ≤ R.r := by
 obtain ⟨he2, hn, hr, hm2⟩ := back_ed hi he
 have b2 := h
 simp only [rectB, placeB, Bool.and_eq_true, decide_eq_true_eq] at b2
 cases hq : rowsB a with
 | true =>
  rw [hq, if_pos rfl] at hs
  have hm := mostI_rows hq
  obtain ⟨f1, f2, f3, f4⟩ := stepV_le hi he (t := t) (o := o) (by omega) (by omega) (by omega) hs
  obtain ⟨l1, l2, l3, l4⟩ := line_back hi he (t := o) (by omega) (by omega) hs
  obtain ⟨q1, q2⟩ := left_back hi he (t := t) (o := o) (by omega) (by omega) (by omega) hs
  refine ⟨⟨stepV a b c t, l, stepV a b c o, r⟩, ?_, ?_, f4, fun z => z, f2, by show l ≤ r; omega⟩
  ·unfold rectS
   rw [if_pos ⟨he, h⟩, hq, if_pos rfl, q1, if_neg (by simp; omega)]
  ·unfold rectS
   rw [if_pos ⟨he2, by simp only [rectB, placeB, Bool.and_eq_true, decide_eq_true_eq]; omega⟩, hr, hq, if_pos rfl, q2, if_neg (by simp; omega)]
 | false =>
  rw [hq, if_neg (by simp)] at hs
  have hm := mostI_cols hq
  obtain ⟨f1, f2, f3, f4⟩ := stepV_le hi he (t := l) (o := r) (by omega) (by omega) (by omega) hs
  obtain ⟨l1, l2, l3, l4⟩ := line_back hi he (t := r) (by omega) (by omega) hs
  obtain ⟨q1, q2⟩ := left_back hi he (t := l) (o := r) (by omega) (by omega) (by omega) hs
  refine ⟨⟨t, stepV a b c l, o, stepV a b c r⟩, ?_, ?_, fun z => z, f4, by show t ≤ o; omega, f2⟩
  ·unfold rectS
   rw [if_pos ⟨he, h⟩, hq, if_neg (by simp), q1, if_neg (by simp; omega)]
  ·unfold rectS
   rw [if_pos ⟨he2, by simp only [rectB, placeB, Bool.and_eq_true, decide_eq_true_eq]; omega⟩, hr, hq, if_neg (by simp), q2, if_neg (by simp; omega)]
mutual
theorem all_pre (P : Nd → Bool) : ∀ n : Nd, (preN n).all P = allS P n
 | ⟨k, v, c, t, s, l⟩ => by rw [preN, allS, List.all_cons, all_preL P l]
theorem all_preL (P : Nd → Bool) : ∀ l : List Nd, (preL l).all P = allL P l
 | [] => by rw [preL, allL]; rfl
 | x :: r => by rw [preL, allL, List.all_append, all_pre P x, all_preL P r]
end
theorem out_mem : ∀ (l : List Nd) (o : List S_R), (∀ q ∈ o, q ∈ l.foldl addS o) ∧ ∀ m ∈ l, rgB m = true → rcS m ∈ l.foldl addS o
 | [], o => ⟨fun q h => h, fun m h => by cases h⟩
 | x :: r, o => by
  obtain ⟨i1, i2⟩ := out_mem r (addS o x)
  have hs : ∀ q ∈ o, q ∈ addS o x := fun q h => by
   unfold addS
   repeat' split
   all_goals first | exact h | exact List.mem_append_left _ h
  rw [List.foldl_cons]
  refine ⟨fun q h => i1 q (hs q h), fun m h hg => ?_⟩
  rcases List.mem_cons.1 h with rfl | h
  ·refine i1 _ ?_
   unfold addS
   rw [if_pos hg]
   split
   ·assumption
   ·exact List.mem_append_right _ (List.mem_singleton.2 rfl)
  ·exact i2 m h hg
def unclipB (a b c : Int) (n : Nd) : Bool := spotB n && (!rgB n || stepF a b c (farS a (rcS n)) == 0)
section
variable {a b c : Int} (hi : insB a = true) (he : edB a b c = true)
include hi he
omit hi he in
theorem unclip_of {n : Nd} (hq : unclipB a b c n = true) : spotB n = true ∧ (rgB n = true → stepF a b c (farS a (rcS n)) = 0) := by
 unfold unclipB at hq
 rw [Bool.and_eq_true] at hq
 refine ⟨hq.1, fun hg => ?_⟩
 have z := hq.2
 rw [hg] at z
 simpa using z
theorem back_2 (n : Nd) (hq : unclipB a b c n = true) (hk : n.f0 = 2) : ∃ d, way1 (movC a b c) (movB a b c) n.f2 = some d ∧ way1 (movC (a + 1) b c) (movB (a + 1) b c) d = some n.f2 := by
 obtain ⟨h1, h2⟩ := unclip_of hq
 have hp : placeB n.f2.f0.f0 n.f2.f0.f1 = true := by
  unfold spotB at h1
  rw [if_pos hk] at h1
  exact h1
 have e0 : rcS n = ⟨n.f2.f0.f0, n.f2.f0.f1, n.f2.f0.f0, n.f2.f0.f1⟩ := by
  unfold rcS fR
  rw [if_neg (by omega)]
  unfold ofS
  rw [if_pos ⟨hp, hp⟩]
  simp [mn, mx]
 have hs : stepF a b c (if rowsB a = true then n.f2.f0.f0 else n.f2.f0.f1) = 0 := by
  have z := h2 (by simp [rgB, hk])
  rw [e0] at z
  exact z
 obtain ⟨q1, q2⟩ := cell_back hi he hp hs
 refine ⟨movC a b c n.f2, ?_, ?_⟩
 ·unfold way1 movB
  rw [q1]; rfl
 ·unfold way1 movB
  simp only [movC, q2]
  rfl
theorem back_3 (n : Nd) (hq : unclipB a b c n = true) (hk : n.f0 = 3) : ∃ p : Ce × Ce, way2 (movX a b c) (movY a b c) (fun p q => (movR a b c p q).2.1) n.f2 n.f3 = some p ∧ way2 (movX (a + 1) b c) (movY (a + 1) b c) (fun p q => (movR (a + 1) b c p q).2.1) p.1 p.2 = some (n.f2, n.f3) := by
 obtain ⟨h0, h3⟩ := unclip_of hq
 replace h3 := h3 (by simp [rgB, hk])
 unfold spotB at h0
 rw [if_neg (by omega), if_pos hk, Bool.and_eq_true] at h0
 obtain ⟨h1, h2⟩ := h0
 have e0 : rcS n = ⟨(ofS n.f2.f0.f0 n.f2.f0.f1 n.f3.f0.f0 n.f3.f0.f1).t, (ofS n.f2.f0.f0 n.f2.f0.f1 n.f3.f0.f0 n.f3.f0.f1).l, (ofS n.f2.f0.f0 n.f2.f0.f1 n.f3.f0.f0 n.f3.f0.f1).o, (ofS n.f2.f0.f0 n.f2.f0.f1 n.f3.f0.f0 n.f3.f0.f1).r⟩ := by
  unfold rcS fR
  rw [if_pos hk]
 rw [e0] at h3
 clear e0
 generalize n.f2 = p at h1 h3 ⊢
 generalize n.f3 = q at h2 h3 ⊢
 have hp : placeB p.f0.f0 p.f0.f1 = true := h1
 have hp2 : placeB q.f0.f0 q.f0.f1 = true := h2
 have hR := ofS_rect hp hp2
 have hs : stepF a b c (if rowsB a = true then (ofS p.f0.f0 p.f0.f1 q.f0.f0 q.f0.f1).o else (ofS p.f0.f0 p.f0.f1 q.f0.f0 q.f0.f1).r) = 0 := h3
 obtain ⟨R, e1, e2, e3, e4, e5, e6⟩ := rect_back hi he hR hs
 have m1 : movR a b c p q = (R, true, 0) := e1
 have hRR : rectB (movR a b c p q).1.t (movR a b c p q).1.l (movR a b c p q).1.o (movR a b c p q).1.r = true := rect_right he hR (by show (movR a b c p q).2.1 = true; rw [m1])
 have m2 := ofS_mov p q hRR
 have m3 : movR (a + 1) b c (movX a b c p q) (movY a b c p q) = (ofS p.f0.f0 p.f0.f1 q.f0.f0 q.f0.f1, true, 0) := by
  unfold movR
  rw [m2, m1]
  exact e2
 have o1 : ofS p.f0.f0 p.f0.f1 q.f0.f0 q.f0.f1 = ⟨mn p.f0.f0 q.f0.f0, mn p.f0.f1 q.f0.f1, mx p.f0.f0 q.f0.f0, mx p.f0.f1 q.f0.f1⟩ := by unfold ofS; rw [if_pos ⟨hp, hp2⟩]
 rw [o1] at e3 e4 m3
 refine ⟨(movX a b c p q, movY a b c p q), ?_, ?_⟩
 ·unfold way2
  simp only [m1, if_true]
 ·unfold way2
  simp only [m3, if_true]
  congr 1
  obtain ⟨⟨pr, pk⟩, p1, p2⟩ := p
  obtain ⟨⟨qr, qk⟩, q1, q2⟩ := q
  have x1 : movX a b c ⟨⟨pr, pk⟩, p1, p2⟩ ⟨⟨qr, qk⟩, q1, q2⟩ = ⟨⟨if pr ≤ qr then R.t else R.o, if pk ≤ qk then R.l else R.r⟩, p1, p2⟩ := by unfold movX; rw [m1]
  have y1 : movY a b c ⟨⟨pr, pk⟩, p1, p2⟩ ⟨⟨qr, qk⟩, q1, q2⟩ = ⟨⟨if pr ≤ qr then R.o else R.t, if pk ≤ qk then R.r else R.l⟩, q1, q2⟩ := by unfold movY; rw [m1]
  rw [x1, y1] at m3 ⊢
  simp only [mn, mx] at e3 e4 m3
  unfold movX movY
  simp only [m3]
  have t3 : ¬pr = qr → R.t < R.o := fun h => e3 (by split <;> split <;> omega)
  have t4 : ¬pk = qk → R.l < R.r := fun h => e4 (by split <;> split <;> omega)
  clear e3 e4 m3 x1 y1 m2 m1 hRR o1 e1 e2 hR hs h3 hp hp2 h1 h2 hq
  simp only [Prod.mk.injEq, S30.mk.injEq, S28.mk.injEq, and_true]
  by_cases g1 : pr ≤ qr <;> by_cases g2 : pk ≤ qk <;> simp only [g1, g2, if_true, if_false]
  all_goals
   refine ⟨⟨?_, ?_⟩, ?_, ?_⟩
   all_goals (repeat' split)
   all_goals omega
theorem move_back {n : Nd} (h : checkI n = 0) (hc : ∀ q ∈ outS (preN n), stepF a b c (farS a q) = 0) : moveS (a + 1) b c (moveS a b c n) = n := by
 refine way_back (Q := unclipB a b c) (fun n hq hk => back_2 hi he n hq hk) (fun n hq hk => back_3 hi he n hq hk) n ?_
 rw [← all_pre, List.all_eq_true]
 intro m hm
 have hsp := spot_of_check h
 rw [← all_pre, List.all_eq_true] at hsp
 unfold unclipB
 rw [hsp m hm, Bool.true_and]
 cases hg : rgB m with
 | false => rfl
 | true =>
  have := hc _ ((out_mem (preN n) []).2 m hm hg)
  simp [this]
end
theorem clips_cols (a b c t l o r : Int) (w : World) (HC : Aside0 (move_Check.f a b c = some 0)) (HP : Aside0 (place_Check.f t l o r = some 0)) (HR : Aside0 (move_rows.f a b c = some false)) (HI : Aside0 (move_inserts.f a b c = some true)) :
  Calls Tryz.prog 26 #[.agg (edA a b c), .agg (rcA t l o r)] w fun e w' => e = .returned (.tuple #[.bool (stepF a b c r == 2), .int .i64 0]) ∧ Below w.heap.size w w' := by
 have HB := Aside0.mk (bel2 w (.cells (edA a b c) 47) (.cells (rcA t l o r) 64))
 have B2 := Aside0.mk (blk_alloc (newBlk w (.cells (edA a b c) 47)) (.cells (rcA t l o r) 64))
 have B3 := Aside0.mk (newBlk2 w (.cells (edA a b c) 47) (.cells (rcA t l o r) 64))
 go_enter Tryz.func26, Tryz.ntmps26
 go_wp2_with (first
  | ((with_reducible refine gate_dst (N := 7) rfl ?_); refine wpPartLd 7 rfl rfl 47 (.tmp 2) rfl _ rfl _ (edA a b c) [] (B2.out) rfl Tryz.underlying47 rfl (by kernel_rfl) ?_)
  | (go_at_call 37; (with_reducible refine (move_Check.calls _ _ _ _ _ HC.out).mono ?_); rintro e w1 ⟨rfl, hb⟩; have HB_1 := Aside0.mk (below_step HB.out hb); have e_1 := Aside0.mk (blk_below B2.out hb); have r_1 := Aside0.mk (blk_below B3.out hb); clear hb HB B2 B3)
  | ((with_reducible refine gate_dst (N := 11) rfl ?_); (refine gate_guard (by rfl) ?_; dsimp only); refine wpPartLd 11 rfl rfl 64 (.tmp 3) rfl _ rfl _ (rcA t l o r) [] (r_1.out) rfl Tryz.underlying64 rfl (by kernel_rfl) ?_)
  | (go_at_call 49; (with_reducible refine (place_Check.calls _ _ _ _ _ _ HP.out).mono ?_); rintro e w2 ⟨rfl, hb⟩; have HB_2 := Aside0.mk (below_step HB_1.out hb); have e_2 := Aside0.mk (blk_below e_1.out hb); have r_2 := Aside0.mk (blk_below r_1.out hb); have GE := Aside0.mk HB_2.out.size; clear hb HB_1 e_1 r_1; have h_r := fun i => blk_cell r_2.out i)
  | ((with_reducible refine gate_store (t := 96) (p := 6) (v := .tmp 19) rfl ?_); refine wpRowSt rfl 96 (.tmp 6) (.tmp 19) rfl (w2.heap.size) (#[.int .i64 l, .int .i64 r]) rfl rfl 96 _ (newBlk w2 _) (by kernel_rfl) rfl rfl ?_; have HB_3 := Aside0.mk (rowBelow (below_alloc HB_2.out (.cells #[.int .i64 0, .int .i64 0] 96)) HB_2.out.size (#[.int .i64 l, .int .i64 r])); have e_3 := Aside0.mk (rowNew e_2.out (.cells #[.int .i64 0, .int .i64 0] 96) (#[.int .i64 l, .int .i64 r])); have Ne_s := Aside0.mk (Nat.ne_of_lt (blk_lt e_2.out)); have r_3 := Aside0.mk (rowNew r_2.out (.cells #[.int .i64 0, .int .i64 0] 96) (#[.int .i64 l, .int .i64 r])); have Nr_s := Aside0.mk (Nat.ne_of_lt (blk_lt r_2.out)); have s_3 := Aside0.mk (setRow_heap _ _ _ (#[.int .i64 l, .int .i64 r]) _ _ (newBlk w2 (.cells #[.int .i64 0, .int .i64 0] 96))); clear HB_2 e_2 r_2 h_r)
  | ((with_reducible refine gate_dst (N := 20) rfl ?_); refine wpPartLd 20 rfl rfl 47 (.tmp 2) rfl _ rfl _ (edA a b c) [] (e_3.out) rfl Tryz.underlying47 rfl (by kernel_rfl) ?_)
  | (go_at_call 43; (with_reducible refine (move_rows.calls _ _ _ _ _ HR.out).mono ?_); rintro e w3 ⟨rfl, hb⟩; have HB_4 := Aside0.mk (below_step HB_3.out hb); have e_4 := Aside0.mk (blk_below e_3.out hb); have r_4 := Aside0.mk (blk_below r_3.out hb); have s_4 := Aside0.mk (blk_below s_3.out hb); clear hb HB_3 e_3 r_3 s_3; have h_r := fun i => blk_cell r_4.out i)
  | ((with_reducible refine gate_dst (N := 27) rfl ?_); refine wpPartLd 27 rfl rfl 47 (.tmp 2) rfl _ rfl _ (edA a b c) [] (e_4.out) rfl Tryz.underlying47 rfl (by kernel_rfl) ?_)
  | (go_at_call 50; (with_reducible refine (move_inserts.calls _ _ _ _ _ HI.out).mono ?_); rintro e w4 ⟨rfl, hb⟩; have HB_5 := Aside0.mk (below_step HB_4.out hb); have e_5 := Aside0.mk (blk_below e_4.out hb); have r_5 := Aside0.mk (blk_below r_4.out hb); have s_5 := Aside0.mk (blk_below s_4.out hb); clear hb HB_4 e_4 r_4 s_4 h_r)
  | ((with_reducible refine gate_dst (N := 29) rfl ?_); refine wpPartLd 29 rfl rfl 47 (.tmp 2) rfl _ rfl _ (edA a b c) [] (e_5.out) rfl Tryz.underlying47 rfl (by kernel_rfl) ?_)
  | (go_at_call 44; (with_reducible refine (step_calls a b c r w2.heap.size 1 (#[.int .i64 l, .int .i64 r]) 96 _ s_5.out rfl).mono ?_); rintro e w5 ⟨rfl, hb⟩; have HE := Aside0.mk hb; clear hb))
 go_ret2
 exact ⟨rfl, below_step (below_set HB_5.out GE.out) (put_below HE.out)⟩
theorem clips_rows (a b c t l o r : Int) (w : World) (HC : Aside0 (move_Check.f a b c = some 0)) (HP : Aside0 (place_Check.f t l o r = some 0)) (HR : Aside0 (move_rows.f a b c = some true)) (HI : Aside0 (move_inserts.f a b c = some true)) :
  Calls Tryz.prog 26 #[.agg (edA a b c), .agg (rcA t l o r)] w fun e w' => e = .returned (.tuple #[.bool (stepF a b c o == 2), .int .i64 0]) ∧ Below w.heap.size w w' := by
 have HB := Aside0.mk (bel2 w (.cells (edA a b c) 47) (.cells (rcA t l o r) 64))
 have B2 := Aside0.mk (blk_alloc (newBlk w (.cells (edA a b c) 47)) (.cells (rcA t l o r) 64))
 have B3 := Aside0.mk (newBlk2 w (.cells (edA a b c) 47) (.cells (rcA t l o r) 64))
 go_enter Tryz.func26, Tryz.ntmps26
 go_wp2_with (first
  | ((with_reducible refine gate_dst (N := 7) rfl ?_); refine wpPartLd 7 rfl rfl 47 (.tmp 2) rfl _ rfl _ (edA a b c) [] (B2.out) rfl Tryz.underlying47 rfl (by kernel_rfl) ?_)
  | (go_at_call 37; (with_reducible refine (move_Check.calls _ _ _ _ _ HC.out).mono ?_); rintro e w1 ⟨rfl, hb⟩; have HB_1 := Aside0.mk (below_step HB.out hb); have e_1 := Aside0.mk (blk_below B2.out hb); have r_1 := Aside0.mk (blk_below B3.out hb); clear hb HB B2 B3)
  | ((with_reducible refine gate_dst (N := 11) rfl ?_); (refine gate_guard (by rfl) ?_; dsimp only); refine wpPartLd 11 rfl rfl 64 (.tmp 3) rfl _ rfl _ (rcA t l o r) [] (r_1.out) rfl Tryz.underlying64 rfl (by kernel_rfl) ?_)
  | (go_at_call 49; (with_reducible refine (place_Check.calls _ _ _ _ _ _ HP.out).mono ?_); rintro e w2 ⟨rfl, hb⟩; have HB_2 := Aside0.mk (below_step HB_1.out hb); have e_2 := Aside0.mk (blk_below e_1.out hb); have r_2 := Aside0.mk (blk_below r_1.out hb); have GE := Aside0.mk HB_2.out.size; clear hb HB_1 e_1 r_1; have h_r := fun i => blk_cell r_2.out i)
  | ((with_reducible refine gate_store (t := 96) (p := 6) (v := .tmp 19) rfl ?_); refine wpRowSt rfl 96 (.tmp 6) (.tmp 19) rfl (w2.heap.size) (#[.int .i64 l, .int .i64 r]) rfl rfl 96 _ (newBlk w2 _) (by kernel_rfl) rfl rfl ?_; have HB_3 := Aside0.mk (rowBelow (below_alloc HB_2.out (.cells #[.int .i64 0, .int .i64 0] 96)) HB_2.out.size (#[.int .i64 l, .int .i64 r])); have e_3 := Aside0.mk (rowNew e_2.out (.cells #[.int .i64 0, .int .i64 0] 96) (#[.int .i64 l, .int .i64 r])); have Ne_s := Aside0.mk (Nat.ne_of_lt (blk_lt e_2.out)); have r_3 := Aside0.mk (rowNew r_2.out (.cells #[.int .i64 0, .int .i64 0] 96) (#[.int .i64 l, .int .i64 r])); have Nr_s := Aside0.mk (Nat.ne_of_lt (blk_lt r_2.out)); have s_3 := Aside0.mk (setRow_heap _ _ _ (#[.int .i64 l, .int .i64 r]) _ _ (newBlk w2 (.cells #[.int .i64 0, .int .i64 0] 96))); clear HB_2 e_2 r_2 h_r)
  | ((with_reducible refine gate_dst (N := 20) rfl ?_); refine wpPartLd 20 rfl rfl 47 (.tmp 2) rfl _ rfl _ (edA a b c) [] (e_3.out) rfl Tryz.underlying47 rfl (by kernel_rfl) ?_)
  | (go_at_call 43; (with_reducible refine (move_rows.calls _ _ _ _ _ HR.out).mono ?_); rintro e w3 ⟨rfl, hb⟩; have HB_4 := Aside0.mk (below_step HB_3.out hb); have e_4 := Aside0.mk (blk_below e_3.out hb); have r_4 := Aside0.mk (blk_below r_3.out hb); have s_4 := Aside0.mk (blk_below s_3.out hb); clear hb HB_3 e_3 r_3 s_3; have h_r := fun i => blk_cell r_4.out i)
  | ((with_reducible refine gate_store (t := 96) (p := 6) (v := .tmp 26) rfl ?_); refine wpMidSt rfl 96 (.tmp 6) (.tmp 26) rfl w2.heap.size 0 _ ([.int .i64 t, .int .i64 o]) rfl rfl rfl _ (#[.int .i64 l, .int .i64 r]) (#[.int .i64 t, .int .i64 o]) (s_4.out) (by kernel_rfl) rfl rfl rfl ?_; have HB_5 := Aside0.mk (rowBelow HB_4.out (GE.out) (#[.int .i64 t, .int .i64 o])); have e_5 := Aside0.mk (rowOther (g := w2.heap.size) (#[.int .i64 t, .int .i64 o]) e_4.out (Ne_s.out)); have r_5 := Aside0.mk (rowOther (g := w2.heap.size) (#[.int .i64 t, .int .i64 o]) r_4.out (Nr_s.out)); have s_5 := Aside0.mk (setRow_heap _ _ _ (#[.int .i64 t, .int .i64 o]) _ _ s_4.out); clear HB_4 e_4 r_4 s_4 h_r)
  | ((with_reducible refine gate_dst (N := 27) rfl ?_); refine wpPartLd 27 rfl rfl 47 (.tmp 2) rfl _ rfl _ (edA a b c) [] (e_5.out) rfl Tryz.underlying47 rfl (by kernel_rfl) ?_)
  | (go_at_call 50; (with_reducible refine (move_inserts.calls _ _ _ _ _ HI.out).mono ?_); rintro e w4 ⟨rfl, hb⟩; have HB_6 := Aside0.mk (below_step HB_5.out hb); have e_6 := Aside0.mk (blk_below e_5.out hb); have r_6 := Aside0.mk (blk_below r_5.out hb); have s_6 := Aside0.mk (blk_below s_5.out hb); clear hb HB_5 e_5 r_5 s_5)
  | ((with_reducible refine gate_dst (N := 29) rfl ?_); refine wpPartLd 29 rfl rfl 47 (.tmp 2) rfl _ rfl _ (edA a b c) [] (e_6.out) rfl Tryz.underlying47 rfl (by kernel_rfl) ?_)
  | (go_at_call 44; (with_reducible refine (step_calls a b c o w2.heap.size 1 (#[.int .i64 t, .int .i64 o]) 96 _ s_6.out rfl).mono ?_); rintro e w5 ⟨rfl, hb⟩; have HE := Aside0.mk hb; clear hb))
 go_ret2
 exact ⟨rfl, below_step (below_set HB_6.out GE.out) (put_below HE.out)⟩
end Go.Proofs.YthnldbclbfpojaaGreatDoor.Pr
end
