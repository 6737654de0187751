/-
  Lemmas for the law LexScansLexPairs.
-/
import Derived.Test.YtmppnobldhhpjaaGreatDoorSLexScansLexPairs4
import Derived.Test.YtmppnobldhhpjaaGreatDoorSLexScansLexPairs10
section
namespace Go.Proofs.YtmppnobldhhpjaaGreatDoor.Pr
open Go.RowKit Go.Proofs.YtmppnobldhhpjaaGreatDoorW.PrintWords Go.Proofs.YtmppnobldhhpjaaGreatDoorW.PrintLast Go.Proofs.YtmppnobldhhpjaaGreatDoorW.PrintMore
attribute [local go_sem] max2_int min2_int max_two min_two max_three min_three max_four min_four   -- for this text's walks alone
set_option linter.unusedVariables false
set_option linter.unusedSimpArgs false
mutual
def foolscapref01_Parse.j0 : Nat → ByteArray → Bool → Option (Int × Int)
 | 0, _, _ => none
 | k + 1, x0, x4 => if x4 = true then (if 1 ≤ (x0.size : Int) then (foolscapref01_Parse.j1 k (x0.extract 1 x0.size) x4) else (none)) else (foolscapref01_Parse.j1 k x0 x4)
def foolscapref01_Parse.j1 : Nat → ByteArray → Bool → Option (Int × Int)
 | 0, _, _ => none
 | k + 1, x0, x4 => foolscapref01_Parse.l0 k x0 x4 0 0 false
def foolscapref01_Parse.l0 : Nat → ByteArray → Bool → Int → Int → Bool → Option (Int × Int)
 | 0, _, _, _, _, _ => none
 | k + 1, x0, x4, x5, x6, x7 => if x6 < (x0.size : Int) then (if 0 ≤ x6 then ((foolscapref01_digit.f (bt x0 x6)).bind fun t131 => (foolscapref01_Parse.j3 k x0 x4 x5 x6 x7 t131)) else (none)) else (foolscapref01_Parse.j3 k x0 x4 x5 x6 x7 false)
def foolscapref01_Parse.j3 : Nat → ByteArray → Bool → Int → Int → Bool → Bool → Option (Int × Int)
 | 0, _, _, _, _, _, _ => none
 | k + 1, x0, x4, x5, x6, x7, x32 => if x32 = true then (if 0 ≤ x6 then (if x6 < (x0.size : Int) then (if (wrap64 ((wrap64 (10 * x5)) + (((bt x0 x6) - 48) % 256))) > 1000000000000 then (foolscapref01_Parse.l0 k x0 x4 1000000000001 (wrap64 (x6 + 1)) true) else (foolscapref01_Parse.l0 k x0 x4 (wrap64 ((wrap64 (10 * x5)) + (((bt x0 x6) - 48) % 256))) (wrap64 (x6 + 1)) x7)) else (none)) else (none)) else (if x6 = 0 then (some (0, 5)) else (if x6 < (x0.size : Int) then (if 0 ≤ x6 then (if (bt x0 x6) = 46 then (if (wrap64 (x6 + 1)) = (x0.size : Int) then (foolscapref01_Parse.j4 k x0 x4 (wrap64 (x5 * 1000000)) x6 x7 true) else (foolscapref01_Parse.j4 k x0 x4 (wrap64 (x5 * 1000000)) x6 x7 (decide ((wrap64 ((wrap64 ((x0.size : Int) - x6)) - 1)) > 6)))) else (foolscapref01_Parse.j4 k x0 x4 (wrap64 (x5 * 1000000)) x6 x7 true)) else (none)) else (foolscapref01_Parse.j6 k x4 (wrap64 (x5 * 1000000)) x7)))
def foolscapref01_Parse.j6 : Nat → Bool → Int → Bool → Option (Int × Int)
 | 0, _, _, _ => none
 | k + 1, x4, x5, x7 => if x7 = true then (foolscapref01_Parse.j7 k x4 x5 true) else (foolscapref01_Parse.j7 k x4 x5 (decide (x5 > 1000000000000000000)))
def foolscapref01_Parse.j7 : Nat → Bool → Int → Bool → Option (Int × Int)
 | 0, _, _, _ => none
 | k + 1, x4, x5, x100 => if x100 = true then (some (0, 3)) else (if x4 = true then (some (wrap64 (-x5), 0)) else (some (x5, 0)))
def foolscapref01_Parse.j4 : Nat → ByteArray → Bool → Int → Int → Bool → Bool → Option (Int × Int)
 | 0, _, _, _, _, _, _ => none
 | k + 1, x0, x4, x5, x6, x7, x71 => if x71 = true then (some (0, 5)) else (foolscapref01_Parse.l1 k x0 x4 x5 (wrap64 (x6 + 1)) x7 1000000)
def foolscapref01_Parse.l1 : Nat → ByteArray → Bool → Int → Int → Bool → Int → Option (Int × Int)
 | 0, _, _, _, _, _, _ => none
 | k + 1, x0, x4, x5, x6, x7, x8 => if x6 < (x0.size : Int) then (if 0 ≤ x6 then ((foolscapref01_digit.f (bt x0 x6)).bind fun t132 => (if t132 = true then (foolscapref01_Parse.l1 k x0 x4 (wrap64 (x5 + (wrap64 ((wrap64 (Int.tdiv x8 10)) * (((bt x0 x6) - 48) % 256))))) (wrap64 (x6 + 1)) x7 (wrap64 (Int.tdiv x8 10))) else (some (0, 5)))) else (none)) else (foolscapref01_Parse.j6 k x4 x5 x7)
end
def foolscapref01_Parse.f (k : Nat) (a0 : ByteArray) : Option (Int × Int) := if (a0.size : Int) > 40 then (some (0, 5)) else (if (a0.size : Int) > 0 then (if 0 < (a0.size : Int) then (foolscapref01_Parse.j0 k a0 ((bt a0 0) == 45)) else (none)) else (foolscapref01_Parse.j0 k a0 false))
set_option maxHeartbeats 8000000 in
set_option maxRecDepth 100000 in
theorem foolscapref01_Parse.calls (k : Nat) (a0 : ByteArray) (r1 : Int) (r2 : Int) (w : World) (h : foolscapref01_Parse.f k a0 = some (r1, r2)) :
  Calls Tryz.prog 33 #[.string a0] w fun e w' => e = .returned (.tuple #[.int .i64 r1, .int .i64 r2]) ∧ Drawn0 w w' := by
 have H : (if (a0.size : Int) > 40 then (some (0, 5)) else (if (a0.size : Int) > 0 then (if 0 < (a0.size : Int) then (foolscapref01_Parse.j0 k a0 ((bt a0 0) == 45)) else (none)) else (foolscapref01_Parse.j0 k a0 false))) = some (r1, r2) := h
 clear h
 by_cases c2 : (a0.size : Int) > 40
 ·rw [if_pos c2] at H
  have c2b0 : decide (40 < (a0.size : Int)) = true := decide_eq_true c2
  have c2b1 : decide (40 < a0.size) = true := decide_eq_true (by omega)
  clear c2
  simp only [Option.some.injEq, Prod.mk.injEq] at H
  obtain ⟨rfl, rfl⟩ := H
  go_enter Tryz.func33, Tryz.ntmps33
  go_wp2
  go_ret2
  exact ⟨by first | rfl | (simp; done) | (simp [*]; done), by repeat (first | exact Drawn0.refl _ | apply Drawn0.step)⟩
 ·rw [if_neg c2] at H
  have c2b0 : decide (40 < (a0.size : Int)) = false := decide_eq_false c2
  have c2b1 : decide (40 < a0.size) = false := decide_eq_false (by omega)
  clear c2
  have HC3 := Aside0.mk H
  clear H
  go_enter Tryz.func33, Tryz.ntmps33
  go_upto_region 3 with (fail)
  go_cut [4] (fun v4 wc => ∃ (kq : Nat) (x4_2 : Bool), v4 = .bool x4_2 ∧ Aside0 (foolscapref01_Parse.j0 kq a0 x4_2 = some (r1, r2)) ∧ Aside0 (kq ≤ k) ∧ Drawn0 w wc)
  case first =>
   have H := HC3.out
   clear HC3
   by_cases c4 : (a0.size : Int) > 0
   ·rw [if_pos c4] at H
    have c4b0 : decide (0 < (a0.size : Int)) = true := decide_eq_true c4
    have c4b1 : decide (0 < a0.size) = true := decide_eq_true (by omega)
    clear c4
    (first | rw [c4b0] | (simp only [i64_w, i32_w]; rw [c4b0]) | skip)
    by_cases c5 : 0 < (a0.size : Int)
    ·rw [if_pos c5] at H
     have c5b0 : decide (0 < (a0.size : Int)) = true := decide_eq_true c5
     have c5b1 : decide (0 < a0.size) = true := decide_eq_true (by omega)
     clear c5
     have H' := Aside0.mk H
     clear H
     have p6 : 0 ≤ (0 : Int) := (by omega)
     have q6 : 0 < a0.size := (by have : (0 : Int) < (a0.size : Int) := of_decide_eq_true (by first | (with_reducible assumption) | assumption); omega)
     have hx6 : ∀ h : 0 < a0.size, ((a0[0]'h).toNat : Int) = bt a0 0 := bt_at a0 0
     clear p6
     have qi6 : (0 < (a0.size : Int)) = True := eq_true (of_decide_eq_true (by first | (with_reducible assumption) | assumption))
     replace q6 := eq_true q6
     go_wp2
     go_meet
     case rel => exact ⟨_, (((bt a0 0) == 45)), (by first | rfl | (simp; done) | (simp [*]; done)), H', ⟨by first | omega | exact Nat.le_refl _⟩, by repeat (first | exact Drawn0.refl _ | apply Drawn0.step)⟩
    ·rw [if_neg c5] at H
     exact absurd H (by simp)
   ·rw [if_neg c4] at H
    have c4b0 : decide (0 < (a0.size : Int)) = false := decide_eq_false c4
    have c4b1 : decide (0 < a0.size) = false := decide_eq_false (by omega)
    clear c4
    (first | rw [c4b0] | (simp only [i64_w, i32_w]; rw [c4b0]) | skip)
    have H' := Aside0.mk H
    clear H
    go_wp2
    go_meet
    case rel => exact ⟨_, (false), (by first | rfl | (simp; done) | (simp [*]; done)), H', ⟨by first | omega | exact Nat.le_refl _⟩, by repeat (first | exact Drawn0.refl _ | apply Drawn0.step)⟩
  case rest =>
   clear HC3
   try clear c2
   try clear c2b0
   try clear c2b1
   try clear p2
   try clear c3
   try clear c4
   try clear c4b0
   try clear c4b1
   try clear c5
   try clear c5b0
   try clear c5b1
   try clear p6
   try clear q6
   try clear hx6
   try clear qi6
   try clear p6
   try clear q6
   obtain ⟨kq, x4_2, rfl, HA, HJ2, ⟨mc2, rfl⟩⟩ := hcut
   cases kq with
   | zero => exact absurd HA.out (by simp [foolscapref01_Parse.j0])
   | succ kj2 =>
    have H := HA.out
    clear HA
    simp only [foolscapref01_Parse.j0] at H
    have HC7 := Aside0.mk H
    clear H
    go_upto_if 20 with (fail)
    go_cut [0] (fun v0 wc => ∃ (kq : Nat) (x0_6 : ByteArray), v0 = .string x0_6 ∧ Aside0 (foolscapref01_Parse.j1 kq x0_6 x4_2 = some (r1, r2)) ∧ Aside0 (kq ≤ kj2) ∧ Drawn0 w wc)
    case first =>
     have H := HC7.out
     clear HC7
     by_cases c8 : x4_2 = true
     ·subst c8
      have H1 : (if 1 ≤ (a0.size : Int) then (foolscapref01_Parse.j1 kj2 (a0.extract 1 a0.size) true) else (none)) = some (r1, r2) := by rw [if_pos rfl] at H; exact H
      clear H
      have H := H1
      clear H1
      by_cases c9 : 1 ≤ (a0.size : Int)
      ·rw [if_pos c9] at H
       have c9b0 := eq_true c9
       have c9b1 : decide (1 ≤ (a0.size : Int)) = true := decide_eq_true c9
       clear c9
       have H' := Aside0.mk H
       clear H
       go_wp2
       go_meet
       case rel => exact ⟨_, (a0.extract 1 a0.size), (by first | rfl | (simp; done) | (simp [*]; done)), H', ⟨by have := HJ2.out; first | omega | exact Nat.le_refl _⟩, by repeat (first | exact Drawn0.refl _ | apply Drawn0.step)⟩
      ·rw [if_neg c9] at H
       exact absurd H (by simp)
     ·replace c8 := Bool.eq_false_iff.mpr c8
      subst c8
      have H1 : (foolscapref01_Parse.j1 kj2 a0 false) = some (r1, r2) := by rw [if_neg (show ¬ (false = true) by decide)] at H; exact H
      clear H
      have H := H1
      clear H1
      have H' := Aside0.mk H
      clear H
      go_wp2
      go_meet
      case rel => exact ⟨_, (a0), (by first | rfl | (simp; done) | (simp [*]; done)), H', ⟨by have := HJ2.out; first | omega | exact Nat.le_refl _⟩, by repeat (first | exact Drawn0.refl _ | apply Drawn0.step)⟩
    case rest =>
     clear HC7
     try clear c2
     try clear c2b0
     try clear c2b1
     try clear p2
     try clear c3
     try clear c4
     try clear c4b0
     try clear c4b1
     try clear c5
     try clear c5b0
     try clear c5b1
     try clear p6
     try clear q6
     try clear hx6
     try clear qi6
     try clear c8
     try clear c9
     try clear c9b0
     try clear c9b1
     try clear p2
     try clear p6
     try clear q6
     obtain ⟨kq, x0_6, rfl, HA, HJ6, ⟨mc6, rfl⟩⟩ := hcut
     cases kq with
     | zero => exact absurd HA.out (by simp [foolscapref01_Parse.j1])
     | succ kj6 =>
      have H := HA.out
      clear HA
      simp only [foolscapref01_Parse.j1] at H
      have H' := Aside0.mk H
      clear H
      go_wp2
      go_loopg [5, 6, 7] kj6 (fun kq v5 v6 v7 w' => ∃ (x5_3 : Int) (x6_3 : Int) (x7_3 : Bool), v5 = .int .i64 x5_3 ∧ v6 = .int .i64 x6_3 ∧ v7 = .bool x7_3 ∧ Aside0 (foolscapref01_Parse.l0 kq x0_6 x4_2 x5_3 x6_3 x7_3 = some (r1, r2)) ∧ Aside0 (kq ≤ kj6) ∧ Drawn0 w w')
      case atStart => exact ⟨(0), (0), (false), (by first | rfl | (simp; done) | (simp [*]; done)), (by first | rfl | (simp; done) | (simp [*]; done)), (by first | rfl | (simp; done) | (simp [*]; done)), H', ⟨Nat.le_refl _⟩, by repeat (first | exact Drawn0.refl _ | apply Drawn0.step)⟩
      case round =>
       clear H'
       try clear c2
       try clear c2b0
       try clear c2b1
       try clear p2
       try clear c3
       try clear c4
       try clear c4b0
       try clear c4b1
       try clear c5
       try clear c5b0
       try clear c5b1
       try clear c6
       try clear p6
       try clear q6
       try clear hx6
       try clear qi6
       try clear c8
       try clear c9
       try clear c9b0
       try clear c9b1
       try clear p2
       try clear p6
       try clear q6
       obtain ⟨x5_3, x6_3, x7_3, rfl, rfl, rfl, HA, HK3, ⟨m3, rfl⟩⟩ := hrel
       cases gk with
       | zero => exact absurd HA.out (by simp [foolscapref01_Parse.l0])
       | succ k3 =>
        have H := HA.out
        clear HA
        simp only [foolscapref01_Parse.l0] at H
        have HC10 := Aside0.mk H
        clear H
        go_upto_region 7 with (fail)
        go_cut [32] (fun v32 wc => ∃ (kq : Nat) (x32_9 : Bool), v32 = .bool x32_9 ∧ Aside0 (foolscapref01_Parse.j3 kq x0_6 x4_2 x5_3 x6_3 x7_3 x32_9 = some (r1, r2)) ∧ Aside0 (kq ≤ k3) ∧ Drawn0 w wc)
        case first =>
         have H := HC10.out
         clear HC10
         by_cases c11 : x6_3 < (x0_6.size : Int)
         ·rw [if_pos c11] at H
          have c11b0 : decide (x6_3 < (x0_6.size : Int)) = true := decide_eq_true c11
          clear c11
          (first | rw [c11b0] | (simp only [i64_w, i32_w]; rw [c11b0]) | skip)
          by_cases c12 : 0 ≤ x6_3
          ·rw [if_pos c12] at H
           have c12b0 : decide (0 ≤ x6_3) = true := decide_eq_true c12
           clear c12
           replace H := Option.bind_eq_some_iff.mp H
           obtain ⟨t131, A140, H⟩ := H
           replace H : (foolscapref01_Parse.j3 k3 x0_6 x4_2 x5_3 x6_3 x7_3 t131) = some (r1, r2) := H
           have A14 := Aside0.mk A140
           clear A140
           have H' := Aside0.mk H
           clear H
           have p13 : 0 ≤ (x6_3 : Int) := of_decide_eq_true (by first | (with_reducible assumption) | assumption)
           have q13 : x6_3 < (x0_6.size : Int) := of_decide_eq_true (by first | (with_reducible assumption) | assumption)
           have hx13 := bt_at x0_6 x6_3
           replace p13 := eq_true p13
           replace q13 := eq_true q13
           go_wp2_with (first | (go_at_call 49; (with_reducible refine (foolscapref01_digit.calls (bt x0_6 x6_3) t131 _ A14.out).mono ?_); rintro e w' ⟨rfl, ⟨nd, rfl⟩⟩))
           go_meet
           case rel => exact ⟨_, (t131), (by first | rfl | (simp; done) | (simp [*]; done)), H', ⟨by have := HJ2.out; have := HJ6.out; have := HK3.out; first | omega | exact Nat.le_refl _⟩, by repeat (first | exact Drawn0.refl _ | apply Drawn0.step)⟩
          ·rw [if_neg c12] at H
           exact absurd H (by simp)
         ·rw [if_neg c11] at H
          have c11b0 : decide (x6_3 < (x0_6.size : Int)) = false := decide_eq_false c11
          clear c11
          (first | rw [c11b0] | (simp only [i64_w, i32_w]; rw [c11b0]) | skip)
          have H' := Aside0.mk H
          clear H
          go_wp2
          go_meet
          case rel => exact ⟨_, (false), (by first | rfl | (simp; done) | (simp [*]; done)), H', ⟨by have := HJ2.out; have := HJ6.out; have := HK3.out; first | omega | exact Nat.le_refl _⟩, by repeat (first | exact Drawn0.refl _ | apply Drawn0.step)⟩
        case rest =>
         clear HC10
         try clear c1
         try clear p1
         try clear q1
         try clear hx1
         try clear c2
         try clear c2b0
         try clear c2b1
         try clear p2
         try clear c3
         try clear c4
         try clear c4b0
         try clear c4b1
         try clear c5
         try clear c5b0
         try clear c5b1
         try clear c6
         try clear p6
         try clear q6
         try clear hx6
         try clear qi6
         try clear c8
         try clear c9
         try clear c9b0
         try clear c9b1
         try clear c11
         try clear c11b0
         try clear c12
         try clear c12b0
         try clear p13
         try clear q13
         try clear hx13
         try clear p13
         try clear p2
         try clear p6
         try clear q13
         try clear q6
         obtain ⟨kq, x32_9, rfl, HA, HJ9, ⟨mc9, rfl⟩⟩ := hcut
         cases kq with
         | zero => exact absurd HA.out (by simp [foolscapref01_Parse.j3])
         | succ kj9 =>
          have H := HA.out
          clear HA
          simp only [foolscapref01_Parse.j3] at H
          by_cases c15 : x32_9 = true
          ·subst c15
           have H1 : (if 0 ≤ x6_3 then (if x6_3 < (x0_6.size : Int) then (if (wrap64 ((wrap64 (10 * x5_3)) + (((bt x0_6 x6_3) - 48) % 256))) > 1000000000000 then (foolscapref01_Parse.l0 kj9 x0_6 x4_2 1000000000001 (wrap64 (x6_3 + 1)) true) else (foolscapref01_Parse.l0 kj9 x0_6 x4_2 (wrap64 ((wrap64 (10 * x5_3)) + (((bt x0_6 x6_3) - 48) % 256))) (wrap64 (x6_3 + 1)) x7_3)) else (none)) else (none)) = some (r1, r2) := by rw [if_pos rfl] at H; exact H
           clear H
           have H := H1
           clear H1
           by_cases c16 : 0 ≤ x6_3
           ·rw [if_pos c16] at H
            have c16b0 : decide (0 ≤ x6_3) = true := decide_eq_true c16
            clear c16
            by_cases c17 : x6_3 < (x0_6.size : Int)
            ·rw [if_pos c17] at H
             have c17b0 : decide (x6_3 < (x0_6.size : Int)) = true := decide_eq_true c17
             clear c17
             by_cases c19 : (wrap64 ((wrap64 (10 * x5_3)) + (((bt x0_6 x6_3) - 48) % 256))) > 1000000000000
             ·rw [if_pos c19] at H
              have c19b0 : decide (1000000000000 < (wrap64 ((wrap64 (10 * x5_3)) + (((bt x0_6 x6_3) - 48) % 256)))) = true := decide_eq_true c19
              clear c19
              have H' := Aside0.mk H
              clear H
              have p18 : 0 ≤ (x6_3 : Int) := of_decide_eq_true (by first | (with_reducible assumption) | assumption)
              have q18 : x6_3 < (x0_6.size : Int) := of_decide_eq_true (by first | (with_reducible assumption) | assumption)
              have hx18 := bt_at x0_6 x6_3
              replace p18 := eq_true p18
              replace q18 := eq_true q18
              go_wp2
              go_roundg kj9
              case measure => have := HJ2.out; have := HJ6.out; have := HK3.out; have := HJ9.out; omega
              case rel => exact ⟨(1000000000001), (wrap64 (x6_3 + 1)), (true), (by first | rfl | (simp; done) | (simp [*]; done)), (by first | rfl | (simp; done) | (simp [*]; done)), (by first | rfl | (simp; done) | (simp [*]; done)), H', ⟨by have := HJ2.out; have := HJ6.out; have := HK3.out; have := HJ9.out; omega⟩, by repeat (first | exact Drawn0.refl _ | apply Drawn0.step)⟩
             ·rw [if_neg c19] at H
              have c19b0 : decide (1000000000000 < (wrap64 ((wrap64 (10 * x5_3)) + (((bt x0_6 x6_3) - 48) % 256)))) = false := decide_eq_false c19
              clear c19
              have H' := Aside0.mk H
              clear H
              have p18 : 0 ≤ (x6_3 : Int) := of_decide_eq_true (by first | (with_reducible assumption) | assumption)
              have q18 : x6_3 < (x0_6.size : Int) := of_decide_eq_true (by first | (with_reducible assumption) | assumption)
              have hx18 := bt_at x0_6 x6_3
              replace p18 := eq_true p18
              replace q18 := eq_true q18
              go_wp2
              go_roundg kj9
              case measure => have := HJ2.out; have := HJ6.out; have := HK3.out; have := HJ9.out; omega
              case rel => exact ⟨(wrap64 ((wrap64 (10 * x5_3)) + (((bt x0_6 x6_3) - 48) % 256))), (wrap64 (x6_3 + 1)), (x7_3), (by first | rfl | (simp; done) | (simp [*]; done)), (by first | rfl | (simp; done) | (simp [*]; done)), (by first | rfl | (simp; done) | (simp [*]; done)), H', ⟨by have := HJ2.out; have := HJ6.out; have := HK3.out; have := HJ9.out; omega⟩, by repeat (first | exact Drawn0.refl _ | apply Drawn0.step)⟩
            ·rw [if_neg c17] at H
             exact absurd H (by simp)
           ·rw [if_neg c16] at H
            exact absurd H (by simp)
          ·replace c15 := Bool.eq_false_iff.mpr c15
           subst c15
           have H1 : (if x6_3 = 0 then (some (0, 5)) else (if x6_3 < (x0_6.size : Int) then (if 0 ≤ x6_3 then (if (bt x0_6 x6_3) = 46 then (if (wrap64 (x6_3 + 1)) = (x0_6.size : Int) then (foolscapref01_Parse.j4 kj9 x0_6 x4_2 (wrap64 (x5_3 * 1000000)) x6_3 x7_3 true) else (foolscapref01_Parse.j4 kj9 x0_6 x4_2 (wrap64 (x5_3 * 1000000)) x6_3 x7_3 (decide ((wrap64 ((wrap64 ((x0_6.size : Int) - x6_3)) - 1)) > 6)))) else (foolscapref01_Parse.j4 kj9 x0_6 x4_2 (wrap64 (x5_3 * 1000000)) x6_3 x7_3 true)) else (none)) else (foolscapref01_Parse.j6 kj9 x4_2 (wrap64 (x5_3 * 1000000)) x7_3))) = some (r1, r2) := by rw [if_neg (show ¬ (false = true) by decide)] at H; exact H
           clear H
           have H := H1
           clear H1
           by_cases c20 : x6_3 = 0
           ·rw [if_pos c20] at H
            have c20b0 : (x6_3 == 0) = true := beq_iff_eq.mpr c20
            have c20b1 : (x6_3 != 0) = false := bne_eq_false_iff_eq.mpr c20
            clear c20
            simp only [Option.some.injEq, Prod.mk.injEq] at H
            obtain ⟨rfl, rfl⟩ := H
            go_wp2
            go_ret2
            exact ⟨by first | rfl | (simp; done) | (simp [*]; done), by repeat (first | exact Drawn0.refl _ | apply Drawn0.step)⟩
           ·rw [if_neg c20] at H
            have c20b0 : (x6_3 == 0) = false := beq_eq_false_iff_ne.mpr c20
            have c20b1 : (x6_3 != 0) = true := bne_iff_ne.mpr c20
            have HC21 := Aside0.mk H
            clear H
            go_upto_if 52 with (fail)
            go_cut [5] (fun v5 wc => ∃ (kq : Nat) (x5_20 : Int), v5 = .int .i64 x5_20 ∧ Aside0 (foolscapref01_Parse.j6 kq x4_2 x5_20 x7_3 = some (r1, r2)) ∧ Aside0 (kq ≤ kj9) ∧ Drawn0 w wc)
            case first =>
             have H := HC21.out
             clear HC21
             by_cases c22 : x6_3 < (x0_6.size : Int)
             ·rw [if_pos c22] at H
              have c22b0 : decide (x6_3 < (x0_6.size : Int)) = true := decide_eq_true c22
              clear c22
              (first | rw [c22b0] | (simp only [i64_w, i32_w]; rw [c22b0]) | skip)
              have HC23 := Aside0.mk H
              clear H
              go_upto_region 17 with (fail)
              go_cut [71] (fun v71 wc => ∃ (kq : Nat) (x71_22 : Bool), v71 = .bool x71_22 ∧ Aside0 (foolscapref01_Parse.j4 kq x0_6 x4_2 (wrap64 (x5_3 * 1000000)) x6_3 x7_3 x71_22 = some (r1, r2)) ∧ Aside0 (kq ≤ kj9) ∧ Drawn0 w wc)
              case first =>
               have H := HC23.out
               clear HC23
               by_cases c24 : 0 ≤ x6_3
               ·rw [if_pos c24] at H
                have c24b0 : decide (0 ≤ x6_3) = true := decide_eq_true c24
                clear c24
                (first | rw [c24b0] | (simp only [i64_w, i32_w]; rw [c24b0]) | skip)
                by_cases c26 : (bt x0_6 x6_3) = 46
                ·rw [if_pos c26] at H
                 have c26b0 : ((bt x0_6 x6_3) == 46) = true := beq_iff_eq.mpr c26
                 have c26b1 : ((bt x0_6 x6_3) != 46) = false := bne_eq_false_iff_eq.mpr c26
                 clear c26
                 by_cases c27 : (wrap64 (x6_3 + 1)) = (x0_6.size : Int)
                 ·rw [if_pos c27] at H
                  have c27b0 : ((wrap64 (x6_3 + 1)) == (x0_6.size : Int)) = true := beq_iff_eq.mpr c27
                  have c27b1 : ((wrap64 (x6_3 + 1)) != (x0_6.size : Int)) = false := bne_eq_false_iff_eq.mpr c27
                  clear c27
                  have H' := Aside0.mk H
                  clear H
                  have p25 : 0 ≤ (x6_3 : Int) := of_decide_eq_true (by first | (with_reducible assumption) | assumption)
                  have q25 : x6_3 < (x0_6.size : Int) := of_decide_eq_true (by first | (with_reducible assumption) | assumption)
                  have hx25 := bt_at x0_6 x6_3
                  replace p25 := eq_true p25
                  replace q25 := eq_true q25
                  go_wp2
                  go_meet
                  case rel => exact ⟨_, (true), (by first | rfl | (simp; done) | (simp [*]; done)), H', ⟨by have := HJ2.out; have := HJ6.out; have := HK3.out; have := HJ9.out; first | omega | exact Nat.le_refl _⟩, by repeat (first | exact Drawn0.refl _ | apply Drawn0.step)⟩
                 ·rw [if_neg c27] at H
                  have c27b0 : ((wrap64 (x6_3 + 1)) == (x0_6.size : Int)) = false := beq_eq_false_iff_ne.mpr c27
                  have c27b1 : ((wrap64 (x6_3 + 1)) != (x0_6.size : Int)) = true := bne_iff_ne.mpr c27
                  have H' := Aside0.mk H
                  clear H
                  have p25 : 0 ≤ (x6_3 : Int) := of_decide_eq_true (by first | (with_reducible assumption) | assumption)
                  have q25 : x6_3 < (x0_6.size : Int) := of_decide_eq_true (by first | (with_reducible assumption) | assumption)
                  have hx25 := bt_at x0_6 x6_3
                  replace p25 := eq_true p25
                  replace q25 := eq_true q25
                  go_wp2
                  go_meet
                  case rel => exact ⟨_, (decide ((wrap64 ((wrap64 ((x0_6.size : Int) - x6_3)) - 1)) > 6)), (by first | rfl | (simp; done) | (simp [*]; done)), H', ⟨by have := HJ2.out; have := HJ6.out; have := HK3.out; have := HJ9.out; first | omega | exact Nat.le_refl _⟩, by repeat (first | exact Drawn0.refl _ | apply Drawn0.step)⟩
                ·rw [if_neg c26] at H
                 have c26b0 : ((bt x0_6 x6_3) == 46) = false := beq_eq_false_iff_ne.mpr c26
                 have c26b1 : ((bt x0_6 x6_3) != 46) = true := bne_iff_ne.mpr c26
                 have H' := Aside0.mk H
                 clear H
                 have p25 : 0 ≤ (x6_3 : Int) := of_decide_eq_true (by first | (with_reducible assumption) | assumption)
                 have q25 : x6_3 < (x0_6.size : Int) := of_decide_eq_true (by first | (with_reducible assumption) | assumption)
                 have hx25 := bt_at x0_6 x6_3
                 replace p25 := eq_true p25
                 replace q25 := eq_true q25
                 go_wp2
                 go_meet
                 case rel => exact ⟨_, (true), (by first | rfl | (simp; done) | (simp [*]; done)), H', ⟨by have := HJ2.out; have := HJ6.out; have := HK3.out; have := HJ9.out; first | omega | exact Nat.le_refl _⟩, by repeat (first | exact Drawn0.refl _ | apply Drawn0.step)⟩
               ·rw [if_neg c24] at H
                exact absurd H (by simp)
              case rest =>
               clear HC23
               try clear c1
               try clear p1
               try clear q1
               try clear hx1
               try clear c2
               try clear c2b0
               try clear c2b1
               try clear p2
               try clear q2
               try clear hx2
               try clear c3
               try clear c4
               try clear c4b0
               try clear c4b1
               try clear c5
               try clear c5b0
               try clear c5b1
               try clear c6
               try clear p6
               try clear q6
               try clear hx6
               try clear qi6
               try clear c8
               try clear c9
               try clear c9b0
               try clear c9b1
               try clear c11
               try clear c11b0
               try clear c12
               try clear c12b0
               try clear p13
               try clear q13
               try clear hx13
               try clear c15
               try clear c16
               try clear c16b0
               try clear c17
               try clear c17b0
               try clear p18
               try clear q18
               try clear hx18
               try clear c19
               try clear c19b0
               try clear c20
               try clear c20b0
               try clear c20b1
               try clear c22
               try clear c22b0
               try clear c24
               try clear c24b0
               try clear p25
               try clear q25
               try clear hx25
               try clear c26
               try clear c26b0
               try clear c26b1
               try clear c27
               try clear c27b0
               try clear c27b1
               try clear p1
               try clear p13
               try clear p18
               try clear p2
               try clear p25
               try clear p6
               try clear q1
               try clear q13
               try clear q18
               try clear q25
               try clear q6
               obtain ⟨kq, x71_22, rfl, HA, HJ22, ⟨mc22, rfl⟩⟩ := hcut
               cases kq with
               | zero => exact absurd HA.out (by simp [foolscapref01_Parse.j4])
               | succ kj22 =>
                have H := HA.out
                clear HA
                simp only [foolscapref01_Parse.j4] at H
                by_cases c28 : x71_22 = true
                ·subst c28
                 have H1 : (some (0, 5)) = some (r1, r2) := by rw [if_pos rfl] at H; exact H
                 clear H
                 have H := H1
                 clear H1
                 simp only [Option.some.injEq, Prod.mk.injEq] at H
                 obtain ⟨rfl, rfl⟩ := H
                 go_wp2
                 go_ret2
                 exact ⟨by first | rfl | (simp; done) | (simp [*]; done), by repeat (first | exact Drawn0.refl _ | apply Drawn0.step)⟩
                ·replace c28 := Bool.eq_false_iff.mpr c28
                 subst c28
                 have H1 : (foolscapref01_Parse.l1 kj22 x0_6 x4_2 (wrap64 (x5_3 * 1000000)) (wrap64 (x6_3 + 1)) x7_3 1000000) = some (r1, r2) := by rw [if_neg (show ¬ (false = true) by decide)] at H; exact H
                 clear H
                 have H := H1
                 clear H1
                 have H' := Aside0.mk H
                 clear H
                 go_wp2
                 go_loopg [5, 6, 8] kj22 (fun kq v5 v6 v8 w' => ∃ (x5_6 : Int) (x6_6 : Int) (x8_6 : Int), v5 = .int .i64 x5_6 ∧ v6 = .int .i64 x6_6 ∧ v8 = .int .i64 x8_6 ∧ Aside0 (foolscapref01_Parse.l1 kq x0_6 x4_2 x5_6 x6_6 x7_3 x8_6 = some (r1, r2)) ∧ Aside0 (kq ≤ kj22) ∧ Drawn0 w w')
                 case atStart => exact ⟨((wrap64 (x5_3 * 1000000))), (wrap64 (x6_3 + 1)), (1000000), (by first | rfl | (simp; done) | (simp [*]; done)), (by first | rfl | (simp; done) | (simp [*]; done)), (by first | rfl | (simp; done) | (simp [*]; done)), H', ⟨Nat.le_refl _⟩, by repeat (first | exact Drawn0.refl _ | apply Drawn0.step)⟩
                 case round =>
                  clear H'
                  try clear c1
                  try clear p1
                  try clear q1
                  try clear hx1
                  try clear c2
                  try clear c2b0
                  try clear c2b1
                  try clear p2
                  try clear q2
                  try clear hx2
                  try clear c3
                  try clear c4
                  try clear c4b0
                  try clear c4b1
                  try clear c5
                  try clear c5b0
                  try clear c5b1
                  try clear c6
                  try clear p6
                  try clear q6
                  try clear hx6
                  try clear qi6
                  try clear c8
                  try clear c9
                  try clear c9b0
                  try clear c9b1
                  try clear c11
                  try clear c11b0
                  try clear c12
                  try clear c12b0
                  try clear p13
                  try clear q13
                  try clear hx13
                  try clear c15
                  try clear c16
                  try clear c16b0
                  try clear c17
                  try clear c17b0
                  try clear p18
                  try clear q18
                  try clear hx18
                  try clear c19
                  try clear c19b0
                  try clear c20
                  try clear c20b0
                  try clear c20b1
                  try clear c22
                  try clear c22b0
                  try clear c24
                  try clear c24b0
                  try clear p25
                  try clear q25
                  try clear hx25
                  try clear c26
                  try clear c26b0
                  try clear c26b1
                  try clear c27
                  try clear c27b0
                  try clear c27b1
                  try clear c28
                  try clear p1
                  try clear p13
                  try clear p18
                  try clear p2
                  try clear p25
                  try clear p6
                  try clear q1
                  try clear q13
                  try clear q18
                  try clear q2
                  try clear q25
                  try clear q6
                  obtain ⟨x5_6, x6_6, x8_6, rfl, rfl, rfl, HA, HK6, ⟨m6, rfl⟩⟩ := hrel
                  cases gk with
                  | zero => exact absurd HA.out (by simp [foolscapref01_Parse.l1])
                  | succ k6 =>
                   have H := HA.out
                   clear HA
                   simp only [foolscapref01_Parse.l1] at H
                   by_cases c29 : x6_6 < (x0_6.size : Int)
                   ·rw [if_pos c29] at H
                    have c29b0 : decide (x6_6 < (x0_6.size : Int)) = true := decide_eq_true c29
                    clear c29
                    by_cases c30 : 0 ≤ x6_6
                    ·rw [if_pos c30] at H
                     have c30b0 : decide (0 ≤ x6_6) = true := decide_eq_true c30
                     clear c30
                     replace H := Option.bind_eq_some_iff.mp H
                     obtain ⟨t132, A320, H⟩ := H
                     replace H : (if t132 = true then (foolscapref01_Parse.l1 k6 x0_6 x4_2 (wrap64 (x5_6 + (wrap64 ((wrap64 (Int.tdiv x8_6 10)) * (((bt x0_6 x6_6) - 48) % 256))))) (wrap64 (x6_6 + 1)) x7_3 (wrap64 (Int.tdiv x8_6 10))) else (some (0, 5))) = some (r1, r2) := H
                     have A32 := Aside0.mk A320
                     clear A320
                     by_cases c33 : t132 = true
                     ·subst c33
                      have H1 : (foolscapref01_Parse.l1 k6 x0_6 x4_2 (wrap64 (x5_6 + (wrap64 ((wrap64 (Int.tdiv x8_6 10)) * (((bt x0_6 x6_6) - 48) % 256))))) (wrap64 (x6_6 + 1)) x7_3 (wrap64 (Int.tdiv x8_6 10))) = some (r1, r2) := by rw [if_pos rfl] at H; exact H
                      clear H
                      have H := H1
                      clear H1
                      have H' := Aside0.mk H
                      clear H
                      have p31 : 0 ≤ (x6_6 : Int) := of_decide_eq_true (by first | (with_reducible assumption) | assumption)
                      have q31 : x6_6 < (x0_6.size : Int) := of_decide_eq_true (by first | (with_reducible assumption) | assumption)
                      have hx31 := bt_at x0_6 x6_6
                      replace p31 := eq_true p31
                      replace q31 := eq_true q31
                      go_wp2_with (first | ((with_reducible refine gate_callee (f := 49) rfl ?_); refine goesL_ (some 83) rfl rfl Tryz.func49 (by kernel_rfl) rfl #[.int .u8 (bt x0_6 x6_6)] rfl (by (try simp only [List.map_toArray, List.map_cons, List.map_nil]); first | done | rfl) ?_; (with_reducible refine (foolscapref01_digit.calls (bt x0_6 x6_6) true _ A32.out).mono ?_); rintro e w' ⟨rfl, ⟨nd, rfl⟩⟩; refine ⟨_, rfl, ?_⟩; have p34 : 0 ≤ (x6_6 : Int) := of_decide_eq_true (by first | (with_reducible assumption) | assumption); have q34 : x6_6 < (x0_6.size : Int) := of_decide_eq_true (by first | (with_reducible assumption) | assumption); have hx34 := bt_at x0_6 x6_6; replace p34 := eq_true p34; replace q34 := eq_true q34))
                      go_roundg k6
                      case measure => have := HJ2.out; have := HJ6.out; have := HK3.out; have := HJ9.out; have := HJ22.out; have := HK6.out; omega
                      case rel => exact ⟨(wrap64 (x5_6 + (wrap64 ((wrap64 (Int.tdiv x8_6 10)) * (((bt x0_6 x6_6) - 48) % 256))))), (wrap64 (x6_6 + 1)), (wrap64 (Int.tdiv x8_6 10)), (by first | rfl | (simp; done) | (simp [*]; done)), (by first | rfl | (simp; done) | (simp [*]; done)), (by first | rfl | (simp; done) | (simp [*]; done)), H', ⟨by have := HJ2.out; have := HJ6.out; have := HK3.out; have := HJ9.out; have := HJ22.out; have := HK6.out; omega⟩, by repeat (first | exact Drawn0.refl _ | apply Drawn0.step)⟩
                     ·replace c33 := Bool.eq_false_iff.mpr c33
                      subst c33
                      have H1 : (some (0, 5)) = some (r1, r2) := by rw [if_neg (show ¬ (false = true) by decide)] at H; exact H
                      clear H
                      have H := H1
                      clear H1
                      simp only [Option.some.injEq, Prod.mk.injEq] at H
                      obtain ⟨rfl, rfl⟩ := H
                      have p31 : 0 ≤ (x6_6 : Int) := of_decide_eq_true (by first | (with_reducible assumption) | assumption)
                      have q31 : x6_6 < (x0_6.size : Int) := of_decide_eq_true (by first | (with_reducible assumption) | assumption)
                      have hx31 := bt_at x0_6 x6_6
                      replace p31 := eq_true p31
                      replace q31 := eq_true q31
                      go_wp2_with (first | ((with_reducible refine gate_callee (f := 49) rfl ?_); refine goesL_ (some 83) rfl rfl Tryz.func49 (by kernel_rfl) rfl #[.int .u8 (bt x0_6 x6_6)] rfl (by (try simp only [List.map_toArray, List.map_cons, List.map_nil]); first | done | rfl) ?_; (with_reducible refine (foolscapref01_digit.calls (bt x0_6 x6_6) false _ A32.out).mono ?_); rintro e w' ⟨rfl, ⟨nd, rfl⟩⟩; refine ⟨_, rfl, ?_⟩))
                      go_ret2
                      exact ⟨by first | rfl | (simp; done) | (simp [*]; done), by repeat (first | exact Drawn0.refl _ | apply Drawn0.step)⟩
                    ·rw [if_neg c30] at H
                     exact absurd H (by simp)
                   ·rw [if_neg c29] at H
                    have c29b0 : decide (x6_6 < (x0_6.size : Int)) = false := decide_eq_false c29
                    clear c29
                    have H' := Aside0.mk H
                    clear H
                    go_wp2
                    go_meet
                    case rel => exact ⟨_, (x5_6), (by first | rfl | (simp; done) | (simp [*]; done)), H', ⟨by have := HJ2.out; have := HJ6.out; have := HK3.out; have := HJ9.out; have := HJ22.out; have := HK6.out; first | omega | exact Nat.le_refl _⟩, by repeat (first | exact Drawn0.refl _ | apply Drawn0.step)⟩
             ·rw [if_neg c22] at H
              have c22b0 : decide (x6_3 < (x0_6.size : Int)) = false := decide_eq_false c22
              clear c22
              (first | rw [c22b0] | (simp only [i64_w, i32_w]; rw [c22b0]) | skip)
              have H' := Aside0.mk H
              clear H
              go_wp2
              go_meet
              case rel => exact ⟨_, (wrap64 (x5_3 * 1000000)), (by first | rfl | (simp; done) | (simp [*]; done)), H', ⟨by have := HJ2.out; have := HJ6.out; have := HK3.out; have := HJ9.out; first | omega | exact Nat.le_refl _⟩, by repeat (first | exact Drawn0.refl _ | apply Drawn0.step)⟩
            case rest =>
             clear HC21
             try clear c1
             try clear p1
             try clear q1
             try clear hx1
             try clear c2
             try clear c2b0
             try clear c2b1
             try clear p2
             try clear q2
             try clear hx2
             try clear c3
             try clear p3
             try clear q3
             try clear hx3
             try clear c4
             try clear c4b0
             try clear c4b1
             try clear c5
             try clear c5b0
             try clear c5b1
             try clear c6
             try clear p6
             try clear q6
             try clear hx6
             try clear qi6
             try clear c8
             try clear c9
             try clear c9b0
             try clear c9b1
             try clear c11
             try clear c11b0
             try clear c12
             try clear c12b0
             try clear p13
             try clear q13
             try clear hx13
             try clear c15
             try clear c16
             try clear c16b0
             try clear c17
             try clear c17b0
             try clear p18
             try clear q18
             try clear hx18
             try clear c19
             try clear c19b0
             try clear c20
             try clear c20b0
             try clear c20b1
             try clear c22
             try clear c22b0
             try clear c24
             try clear c24b0
             try clear p25
             try clear q25
             try clear hx25
             try clear c26
             try clear c26b0
             try clear c26b1
             try clear c27
             try clear c27b0
             try clear c27b1
             try clear c28
             try clear c29
             try clear c29b0
             try clear c30
             try clear c30b0
             try clear p31
             try clear q31
             try clear hx31
             try clear c33
             try clear p34
             try clear q34
             try clear hx34
             try clear p1
             try clear p13
             try clear p18
             try clear p2
             try clear p25
             try clear p31
             try clear p34
             try clear p6
             try clear q1
             try clear q13
             try clear q18
             try clear q2
             try clear q25
             try clear q31
             try clear q34
             try clear q6
             obtain ⟨kq, x5_20, rfl, HA, HJ20, ⟨mc20, rfl⟩⟩ := hcut
             cases kq with
             | zero => exact absurd HA.out (by simp [foolscapref01_Parse.j6])
             | succ kj20 =>
              have H := HA.out
              clear HA
              simp only [foolscapref01_Parse.j6] at H
              have HC35 := Aside0.mk H
              clear H
              go_upto_region 27 with (fail)
              go_cut [100] (fun v100 wc => ∃ (kq : Nat) (x100_34 : Bool), v100 = .bool x100_34 ∧ Aside0 (foolscapref01_Parse.j7 kq x4_2 x5_20 x100_34 = some (r1, r2)) ∧ Aside0 (kq ≤ kj20) ∧ Drawn0 w wc)
              case first =>
               have H := HC35.out
               clear HC35
               by_cases c36 : x7_3 = true
               ·subst c36
                have H1 : (foolscapref01_Parse.j7 kj20 x4_2 x5_20 true) = some (r1, r2) := by rw [if_pos rfl] at H; exact H
                clear H
                have H := H1
                clear H1
                have H' := Aside0.mk H
                clear H
                go_wp2
                go_meet
                case rel => exact ⟨_, (true), (by first | rfl | (simp; done) | (simp [*]; done)), H', ⟨by have := HJ2.out; have := HJ6.out; have := HK3.out; have := HJ9.out; have := HJ20.out; first | omega | exact Nat.le_refl _⟩, by repeat (first | exact Drawn0.refl _ | apply Drawn0.step)⟩
               ·replace c36 := Bool.eq_false_iff.mpr c36
                subst c36
                have H1 : (foolscapref01_Parse.j7 kj20 x4_2 x5_20 (decide (x5_20 > 1000000000000000000))) = some (r1, r2) := by rw [if_neg (show ¬ (false = true) by decide)] at H; exact H
                clear H
                have H := H1
                clear H1
                have H' := Aside0.mk H
                clear H
                go_wp2
                go_meet
                case rel => exact ⟨_, (decide (x5_20 > 1000000000000000000)), (by first | rfl | (simp; done) | (simp [*]; done)), H', ⟨by have := HJ2.out; have := HJ6.out; have := HK3.out; have := HJ9.out; have := HJ20.out; first | omega | exact Nat.le_refl _⟩, by repeat (first | exact Drawn0.refl _ | apply Drawn0.step)⟩
              case rest =>
               clear HC35
               try clear c1
               try clear p1
               try clear q1
               try clear hx1
               try clear c2
               try clear c2b0
               try clear c2b1
               try clear p2
               try clear q2
               try clear hx2
               try clear c3
               try clear p3
               try clear q3
               try clear hx3
               try clear c4
               try clear c4b0
               try clear c4b1
               try clear c5
               try clear c5b0
               try clear c5b1
               try clear c6
               try clear p6
               try clear q6
               try clear hx6
               try clear qi6
               try clear c8
               try clear c9
               try clear c9b0
               try clear c9b1
               try clear c11
               try clear c11b0
               try clear c12
               try clear c12b0
               try clear p13
               try clear q13
               try clear hx13
               try clear c15
               try clear c16
               try clear c16b0
               try clear c17
               try clear c17b0
               try clear p18
               try clear q18
               try clear hx18
               try clear c19
               try clear c19b0
               try clear c20
               try clear c20b0
               try clear c20b1
               try clear c22
               try clear c22b0
               try clear c24
               try clear c24b0
               try clear p25
               try clear q25
               try clear hx25
               try clear c26
               try clear c26b0
               try clear c26b1
               try clear c27
               try clear c27b0
               try clear c27b1
               try clear c28
               try clear c29
               try clear c29b0
               try clear c30
               try clear c30b0
               try clear p31
               try clear q31
               try clear hx31
               try clear c33
               try clear p34
               try clear q34
               try clear hx34
               try clear c36
               try clear p1
               try clear p13
               try clear p18
               try clear p2
               try clear p25
               try clear p3
               try clear p31
               try clear p34
               try clear p6
               try clear q1
               try clear q13
               try clear q18
               try clear q2
               try clear q25
               try clear q3
               try clear q31
               try clear q34
               try clear q6
               obtain ⟨kq, x100_34, rfl, HA, HJ34, ⟨mc34, rfl⟩⟩ := hcut
               cases kq with
               | zero => exact absurd HA.out (by simp [foolscapref01_Parse.j7])
               | succ kj34 =>
                have H := HA.out
                clear HA
                simp only [foolscapref01_Parse.j7] at H
                by_cases c37 : x100_34 = true
                ·subst c37
                 have H1 : (some (0, 3)) = some (r1, r2) := by rw [if_pos rfl] at H; exact H
                 clear H
                 have H := H1
                 clear H1
                 simp only [Option.some.injEq, Prod.mk.injEq] at H
                 obtain ⟨rfl, rfl⟩ := H
                 go_wp2
                 go_ret2
                 exact ⟨by first | rfl | (simp; done) | (simp [*]; done), by repeat (first | exact Drawn0.refl _ | apply Drawn0.step)⟩
                ·replace c37 := Bool.eq_false_iff.mpr c37
                 subst c37
                 have H1 : (if x4_2 = true then (some (wrap64 (-x5_20), 0)) else (some (x5_20, 0))) = some (r1, r2) := by rw [if_neg (show ¬ (false = true) by decide)] at H; exact H
                 clear H
                 have H := H1
                 clear H1
                 by_cases c38 : x4_2 = true
                 ·subst c38
                  have H1 : (some (wrap64 (-x5_20), 0)) = some (r1, r2) := by rw [if_pos rfl] at H; exact H
                  clear H
                  have H := H1
                  clear H1
                  simp only [Option.some.injEq, Prod.mk.injEq] at H
                  obtain ⟨rfl, rfl⟩ := H
                  go_wp2
                  go_ret2
                  exact ⟨by first | rfl | (simp; done) | (simp [*]; done), by repeat (first | exact Drawn0.refl _ | apply Drawn0.step)⟩
                 ·replace c38 := Bool.eq_false_iff.mpr c38
                  subst c38
                  have H1 : (some (x5_20, 0)) = some (r1, r2) := by rw [if_neg (show ¬ (false = true) by decide)] at H; exact H
                  clear H
                  have H := H1
                  clear H1
                  simp only [Option.some.injEq, Prod.mk.injEq] at H
                  obtain ⟨rfl, rfl⟩ := H
                  go_wp2
                  go_ret2
                  exact ⟨by first | rfl | (simp; done) | (simp [*]; done), by repeat (first | exact Drawn0.refl _ | apply Drawn0.step)⟩
end Go.Proofs.YtmppnobldhhpjaaGreatDoor.Pr
end
