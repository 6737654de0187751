/-
  Lemmas for the law FAllFTable.
-/
import Derived.Test.YtopdjokncbpghaaGreatDoorSFAllFTable5
import Derived.Test.YtopdjokncbpghaaGreatDoorSFAllFTable6
set_option maxHeartbeats 8000000
set_option maxRecDepth 100000
set_option linter.unusedVariables false
set_option linter.unusedSimpArgs false
section
namespace Go.Proofs.YtopdjokncbpghaaGreatDoor.Pr
open Go.RowKit Go.Proofs.YtopdjokncbpghaaGreatDoorW.PrintWords Go.Proofs.YtopdjokncbpghaaGreatDoorW.PrintLast Go.Proofs.YtopdjokncbpghaaGreatDoorW.PrintMore
attribute [local go_sem] max2_int min2_int max_two min_two max_three min_three max_four min_four   -- for this text's walks alone
attribute [local go_sem high] eqA37
def foolscapref04_Right.f (a0_0 : Int) (a0_1 : Int) (a0_2 : ByteArray) (a0_3 : Bool) (a0_4 : Int) : Option (Bool) := if a0_0 = 0 then (some (a0_0 == 0 && (a0_1 == 0 && (a0_2.toList == ([] : List UInt8) && (!a0_3 && (a0_4 == 0)))))) else (if a0_0 = 1 then ((foolscapref01_Fits.f a0_1).bind fun t129 => (if t129 = true then (some (a0_0 == 1 && (a0_2.toList == ([] : List UInt8) && (!a0_3 && (a0_4 == 0))))) else (some false))) else (if a0_0 = 2 then (if (a0_2.size : Int) ≤ 255 then (some (a0_0 == 2 && (a0_1 == 0 && (!a0_3 && (a0_4 == 0))))) else (some false)) else (if a0_0 = 3 then (some (a0_0 == 3 && (a0_1 == 0 && (a0_2.toList == ([] : List UInt8) && (a0_4 == 0))))) else (if a0_0 = 4 then (if a0_4 ≥ 1 then (if a0_4 ≤ 7 then (some (a0_0 == 4 && (a0_1 == 0 && (a0_2.toList == ([] : List UInt8) && (!a0_3))))) else (some false)) else (some false)) else (some false)))))
mutual
def foolscapref08_Line.j0 : Nat → ByteArray → Bool → Option (Int)
 | 0, _, _ => none
 | k + 1, x3, x4 => if x4 = true then (some 0) else (if x3.toList = ([38] : List UInt8) then (some 1) else (if x3.toList = ([43] : List UInt8) then (foolscapref08_Line.j1 k x3 (x3.toList == ([43] : List UInt8))) else (foolscapref08_Line.j1 k x3 (x3.toList == ([45] : List UInt8)))))
def foolscapref08_Line.j1 : Nat → ByteArray → Bool → Option (Int)
 | 0, _, _ => none
 | k + 1, x3, x13 => if x13 = true then (some 2) else (if x3.toList = ([42] : List UInt8) then (some 3) else (if x3.toList = ([47] : List UInt8) then (some 3) else (some (-1))))
end
def foolscapref08_Line.f (k : Nat) (a0 : ByteArray) : Option (Int) := if a0.toList = ([61] : List UInt8) then (foolscapref08_Line.j0 k a0 (a0.toList == ([61] : List UInt8))) else (if a0.toList = ([60, 62] : List UInt8) then (foolscapref08_Line.j0 k a0 (a0.toList == ([60, 62] : List UInt8))) else (if a0.toList = ([60] : List UInt8) then (foolscapref08_Line.j0 k a0 (a0.toList == ([60] : List UInt8))) else (if a0.toList = ([62] : List UInt8) then (foolscapref08_Line.j0 k a0 (a0.toList == ([62] : List UInt8))) else (if a0.toList = ([60, 61] : List UInt8) then (foolscapref08_Line.j0 k a0 (a0.toList == ([60, 61] : List UInt8))) else (foolscapref08_Line.j0 k a0 (a0.toList == ([62, 61] : List UInt8)))))))
theorem foolscapref08_Line.calls (k : Nat) (a0 : ByteArray) (r : Int) (w : World) (h : foolscapref08_Line.f k a0 = some r) :
  Calls Tryz.prog 84 #[.string a0] w fun e w' => e = .returned (.int .i64 r) ∧ Drawn0 w w' := by
 have H : (if a0.toList = ([61] : List UInt8) then (foolscapref08_Line.j0 k a0 (a0.toList == ([61] : List UInt8))) else (if a0.toList = ([60, 62] : List UInt8) then (foolscapref08_Line.j0 k a0 (a0.toList == ([60, 62] : List UInt8))) else (if a0.toList = ([60] : List UInt8) then (foolscapref08_Line.j0 k a0 (a0.toList == ([60] : List UInt8))) else (if a0.toList = ([62] : List UInt8) then (foolscapref08_Line.j0 k a0 (a0.toList == ([62] : List UInt8))) else (if a0.toList = ([60, 61] : List UInt8) then (foolscapref08_Line.j0 k a0 (a0.toList == ([60, 61] : List UInt8))) else (foolscapref08_Line.j0 k a0 (a0.toList == ([62, 61] : List UInt8)))))))) = some r := h
 clear h
 have HC2 := Aside0.mk H
 clear H
 go_enter Tryz.func84, Tryz.ntmps84
 go_upto_if 4 with (fail)
 go_cut [4] (fun v4 wc => ∃ (kq : Nat) (x4_1 : Bool), v4 = .bool x4_1 ∧ Aside0 (foolscapref08_Line.j0 kq a0 x4_1 = some r) ∧ Aside0 (kq ≤ k) ∧ Drawn0 w wc)
 case first =>
  have H := HC2.out
  clear HC2
  by_cases c3 : a0.toList = ([61] : List UInt8)
  ·rw [if_pos c3] at H
   have c3b0 : (a0.toList == ([61] : List UInt8)) = true := beq_iff_eq.mpr c3
   have c3b1 : (a0.toList != ([61] : List UInt8)) = false := bne_eq_false_iff_eq.mpr c3
   clear c3
   (first | rw [c3b0] | (simp only [i64_w, i32_w]; rw [c3b0]) | skip)
   have H' := Aside0.mk H
   clear H
   go_wp2
   go_meet
   case rel => exact ⟨_, ((a0.toList == ([61] : List UInt8))), (rflS), H', ⟨by first | omega | exact Nat.le_refl _⟩, drA⟩
  ·rw [if_neg c3] at H
   have c3b0 : (a0.toList == ([61] : List UInt8)) = false := beq_eq_false_iff_ne.mpr c3
   have c3b1 : (a0.toList != ([61] : List UInt8)) = true := bne_iff_ne.mpr c3
   (first | rw [c3b0] | (simp only [i64_w, i32_w]; rw [c3b0]) | skip)
   by_cases c4 : a0.toList = ([60, 62] : List UInt8)
   ·rw [if_pos c4] at H
    have c4b0 : (a0.toList == ([60, 62] : List UInt8)) = true := beq_iff_eq.mpr c4
    have c4b1 : (a0.toList != ([60, 62] : List UInt8)) = false := bne_eq_false_iff_eq.mpr c4
    clear c4
    have H' := Aside0.mk H
    clear H
    go_wp2
    go_meet
    case rel => exact ⟨_, ((a0.toList == ([60, 62] : List UInt8))), (rflS), H', ⟨by first | omega | exact Nat.le_refl _⟩, drA⟩
   ·rw [if_neg c4] at H
    have c4b0 : (a0.toList == ([60, 62] : List UInt8)) = false := beq_eq_false_iff_ne.mpr c4
    have c4b1 : (a0.toList != ([60, 62] : List UInt8)) = true := bne_iff_ne.mpr c4
    by_cases c5 : a0.toList = ([60] : List UInt8)
    ·rw [if_pos c5] at H
     have c5b0 : (a0.toList == ([60] : List UInt8)) = true := beq_iff_eq.mpr c5
     have c5b1 : (a0.toList != ([60] : List UInt8)) = false := bne_eq_false_iff_eq.mpr c5
     clear c5
     have H' := Aside0.mk H
     clear H
     go_wp2
     go_meet
     case rel => exact ⟨_, ((a0.toList == ([60] : List UInt8))), (rflS), H', ⟨by first | omega | exact Nat.le_refl _⟩, drA⟩
    ·rw [if_neg c5] at H
     have c5b0 : (a0.toList == ([60] : List UInt8)) = false := beq_eq_false_iff_ne.mpr c5
     have c5b1 : (a0.toList != ([60] : List UInt8)) = true := bne_iff_ne.mpr c5
     by_cases c6 : a0.toList = ([62] : List UInt8)
     ·rw [if_pos c6] at H
      have c6b0 : (a0.toList == ([62] : List UInt8)) = true := beq_iff_eq.mpr c6
      have c6b1 : (a0.toList != ([62] : List UInt8)) = false := bne_eq_false_iff_eq.mpr c6
      clear c6
      have H' := Aside0.mk H
      clear H
      go_wp2
      go_meet
      case rel => exact ⟨_, ((a0.toList == ([62] : List UInt8))), (rflS), H', ⟨by first | omega | exact Nat.le_refl _⟩, drA⟩
     ·rw [if_neg c6] at H
      have c6b0 : (a0.toList == ([62] : List UInt8)) = false := beq_eq_false_iff_ne.mpr c6
      have c6b1 : (a0.toList != ([62] : List UInt8)) = true := bne_iff_ne.mpr c6
      by_cases c7 : a0.toList = ([60, 61] : List UInt8)
      ·rw [if_pos c7] at H
       have c7b0 : (a0.toList == ([60, 61] : List UInt8)) = true := beq_iff_eq.mpr c7
       have c7b1 : (a0.toList != ([60, 61] : List UInt8)) = false := bne_eq_false_iff_eq.mpr c7
       clear c7
       have H' := Aside0.mk H
       clear H
       go_wp2
       go_meet
       case rel => exact ⟨_, ((a0.toList == ([60, 61] : List UInt8))), (rflS), H', ⟨by first | omega | exact Nat.le_refl _⟩, drA⟩
      ·rw [if_neg c7] at H
       have c7b0 : (a0.toList == ([60, 61] : List UInt8)) = false := beq_eq_false_iff_ne.mpr c7
       have c7b1 : (a0.toList != ([60, 61] : List UInt8)) = true := bne_iff_ne.mpr c7
       have H' := Aside0.mk H
       clear H
       go_wp2
       go_meet
       case rel => exact ⟨_, ((a0.toList == ([62, 61] : List UInt8))), (rflS), H', ⟨by first | omega | exact Nat.le_refl _⟩, drA⟩
 case rest =>
  clear HC2
  try clear p2
  try clear c3
  try clear c3b0
  try clear c3b1
  try clear c4
  try clear c4b0
  try clear c4b1
  try clear c5
  try clear c5b0
  try clear c5b1
  try clear c6
  try clear c6b0
  try clear c6b1
  try clear c7
  try clear c7b0
  try clear c7b1
  obtain ⟨kq, x4_1, rfl, HA, HJ1, ⟨mc1, rfl⟩⟩ := hcut
  cases kq with
  | zero => exact absurd HA.out (by simp [foolscapref08_Line.j0])
  | succ kj1 =>
   have H := HA.out
   clear HA
   simp only [foolscapref08_Line.j0] at H
   by_cases c8 : x4_1 = true
   ·subst c8
    have H1 : (some 0) = some r := by rw [if_pos rfl] at H; exact H
    clear H
    have H := H1
    clear H1
    obtain rfl := Option.some.inj H
    go_wp2
    go_ret
    exact ⟨rflS, drA⟩
   ·replace c8 := Bool.eq_false_iff.mpr c8
    subst c8
    have H1 : (if a0.toList = ([38] : List UInt8) then (some 1) else (if a0.toList = ([43] : List UInt8) then (foolscapref08_Line.j1 kj1 a0 (a0.toList == ([43] : List UInt8))) else (foolscapref08_Line.j1 kj1 a0 (a0.toList == ([45] : List UInt8))))) = some r := by rw [if_neg (show ¬ (false = true) by decide)] at H; exact H
    clear H
    have H := H1
    clear H1
    by_cases c9 : a0.toList = ([38] : List UInt8)
    ·rw [if_pos c9] at H
     have c9b0 : (a0.toList == ([38] : List UInt8)) = true := beq_iff_eq.mpr c9
     have c9b1 : (a0.toList != ([38] : List UInt8)) = false := bne_eq_false_iff_eq.mpr c9
     clear c9
     obtain rfl := Option.some.inj H
     go_wp2
     go_ret
     exact ⟨rflS, drA⟩
    ·rw [if_neg c9] at H
     have c9b0 : (a0.toList == ([38] : List UInt8)) = false := beq_eq_false_iff_ne.mpr c9
     have c9b1 : (a0.toList != ([38] : List UInt8)) = true := bne_iff_ne.mpr c9
     have HC10 := Aside0.mk H
     clear H
     go_upto_if 13 with (fail)
     go_cut [13] (fun v13 wc => ∃ (kq : Nat) (x13_9 : Bool), v13 = .bool x13_9 ∧ Aside0 (foolscapref08_Line.j1 kq a0 x13_9 = some r) ∧ Aside0 (kq ≤ kj1) ∧ Drawn0 w wc)
     case first =>
      have H := HC10.out
      clear HC10
      by_cases c11 : a0.toList = ([43] : List UInt8)
      ·rw [if_pos c11] at H
       have c11b0 : (a0.toList == ([43] : List UInt8)) = true := beq_iff_eq.mpr c11
       have c11b1 : (a0.toList != ([43] : List UInt8)) = false := bne_eq_false_iff_eq.mpr c11
       clear c11
       (first | rw [c11b0] | (simp only [i64_w, i32_w]; rw [c11b0]) | skip)
       have H' := Aside0.mk H
       clear H
       go_wp2
       go_meet
       case rel => exact ⟨_, ((a0.toList == ([43] : List UInt8))), (rflS), H', ⟨by have := HJ1.out; first | omega | exact Nat.le_refl _⟩, drA⟩
      ·rw [if_neg c11] at H
       have c11b0 : (a0.toList == ([43] : List UInt8)) = false := beq_eq_false_iff_ne.mpr c11
       have c11b1 : (a0.toList != ([43] : List UInt8)) = true := bne_iff_ne.mpr c11
       (first | rw [c11b0] | (simp only [i64_w, i32_w]; rw [c11b0]) | skip)
       have H' := Aside0.mk H
       clear H
       go_wp2
       go_meet
       case rel => exact ⟨_, ((a0.toList == ([45] : List UInt8))), (rflS), H', ⟨by have := HJ1.out; first | omega | exact Nat.le_refl _⟩, drA⟩
     case rest =>
      clear HC10
      try clear c1
      try clear p2
      try clear c3
      try clear c3b0
      try clear c3b1
      try clear c4
      try clear c4b0
      try clear c4b1
      try clear c5
      try clear c5b0
      try clear c5b1
      try clear c6
      try clear c6b0
      try clear c6b1
      try clear c7
      try clear c7b0
      try clear c7b1
      try clear c8
      try clear c9
      try clear c9b0
      try clear c9b1
      try clear c11
      try clear c11b0
      try clear c11b1
      try clear p2
      obtain ⟨kq, x13_9, rfl, HA, HJ9, ⟨mc9, rfl⟩⟩ := hcut
      cases kq with
      | zero => exact absurd HA.out (by simp [foolscapref08_Line.j1])
      | succ kj9 =>
       have H := HA.out
       clear HA
       simp only [foolscapref08_Line.j1] at H
       by_cases c12 : x13_9 = true
       ·subst c12
        have H1 : (some 2) = some r := by rw [if_pos rfl] at H; exact H
        clear H
        have H := H1
        clear H1
        obtain rfl := Option.some.inj H
        go_wp2
        go_ret
        exact ⟨rflS, drA⟩
       ·replace c12 := Bool.eq_false_iff.mpr c12
        subst c12
        have H1 : (if a0.toList = ([42] : List UInt8) then (some 3) else (if a0.toList = ([47] : List UInt8) then (some 3) else (some (-1)))) = some r := by rw [if_neg (show ¬ (false = true) by decide)] at H; exact H
        clear H
        have H := H1
        clear H1
        by_cases c13 : a0.toList = ([42] : List UInt8)
        ·rw [if_pos c13] at H
         have c13b0 : (a0.toList == ([42] : List UInt8)) = true := beq_iff_eq.mpr c13
         have c13b1 : (a0.toList != ([42] : List UInt8)) = false := bne_eq_false_iff_eq.mpr c13
         clear c13
         obtain rfl := Option.some.inj H
         go_wp2
         go_ret
         exact ⟨rflS, drA⟩
        ·rw [if_neg c13] at H
         have c13b0 : (a0.toList == ([42] : List UInt8)) = false := beq_eq_false_iff_ne.mpr c13
         have c13b1 : (a0.toList != ([42] : List UInt8)) = true := bne_iff_ne.mpr c13
         by_cases c14 : a0.toList = ([47] : List UInt8)
         ·rw [if_pos c14] at H
          have c14b0 : (a0.toList == ([47] : List UInt8)) = true := beq_iff_eq.mpr c14
          have c14b1 : (a0.toList != ([47] : List UInt8)) = false := bne_eq_false_iff_eq.mpr c14
          clear c14
          obtain rfl := Option.some.inj H
          go_wp2
          go_ret
          exact ⟨rflS, drA⟩
         ·rw [if_neg c14] at H
          have c14b0 : (a0.toList == ([47] : List UInt8)) = false := beq_eq_false_iff_ne.mpr c14
          have c14b1 : (a0.toList != ([47] : List UInt8)) = true := bne_iff_ne.mpr c14
          obtain rfl := Option.some.inj H
          go_wp2
          go_ret
          exact ⟨rflS, drA⟩
def foolscapref07_letter.f (a0 : Int) : Option (Bool) := if a0 ≥ 65 then (if a0 ≤ 90 then (some true) else (if a0 ≥ 97 then (some (decide (a0 ≤ 122))) else (some false))) else (if a0 ≥ 97 then (some (decide (a0 ≤ 122))) else (some false))
theorem foolscapref07_letter.calls (a0 : Int) (r : Bool) (w : World) (h : foolscapref07_letter.f a0 = some r) :
  Calls Tryz.prog 100 #[.int .u8 a0] w fun e w' => e = .returned (.bool r) ∧ Drawn0 w w' := by
 have H : (if a0 ≥ 65 then (if a0 ≤ 90 then (some true) else (if a0 ≥ 97 then (some (decide (a0 ≤ 122))) else (some false))) else (if a0 ≥ 97 then (some (decide (a0 ≤ 122))) else (some false))) = some r := h
 clear h
 by_cases c2 : a0 ≥ 65
 ·rw [if_pos c2] at H
  have c2b0 : decide (65 ≤ a0) = true := decide_eq_true c2
  clear c2
  by_cases c3 : a0 ≤ 90
  ·rw [if_pos c3] at H
   have c3b0 : decide (a0 ≤ 90) = true := decide_eq_true c3
   clear c3
   obtain rfl := Option.some.inj H
   go_enter Tryz.func100, Tryz.ntmps100
   go_wp2
   go_ret
   exact ⟨rflS, drA⟩
  ·rw [if_neg c3] at H
   have c3b0 : decide (a0 ≤ 90) = false := decide_eq_false c3
   clear c3
   by_cases c4 : a0 ≥ 97
   ·rw [if_pos c4] at H
    have c4b0 : decide (97 ≤ a0) = true := decide_eq_true c4
    clear c4
    obtain rfl := Option.some.inj H
    go_enter Tryz.func100, Tryz.ntmps100
    go_wp2
    go_ret
    exact ⟨rflS, drA⟩
   ·rw [if_neg c4] at H
    have c4b0 : decide (97 ≤ a0) = false := decide_eq_false c4
    clear c4
    obtain rfl := Option.some.inj H
    go_enter Tryz.func100, Tryz.ntmps100
    go_wp2
    go_ret
    exact ⟨rflS, drA⟩
 ·rw [if_neg c2] at H
  have c2b0 : decide (65 ≤ a0) = false := decide_eq_false c2
  clear c2
  by_cases c5 : a0 ≥ 97
  ·rw [if_pos c5] at H
   have c5b0 : decide (97 ≤ a0) = true := decide_eq_true c5
   clear c5
   obtain rfl := Option.some.inj H
   go_enter Tryz.func100, Tryz.ntmps100
   go_wp2
   go_ret
   exact ⟨rflS, drA⟩
  ·rw [if_neg c5] at H
   have c5b0 : decide (97 ≤ a0) = false := decide_eq_false c5
   clear c5
   obtain rfl := Option.some.inj H
   go_enter Tryz.func100, Tryz.ntmps100
   go_wp2
   go_ret
   exact ⟨rflS, drA⟩
def foolscapref07_digit.f (a0 : Int) : Option (Bool) := if a0 ≥ 48 then (some (decide (a0 ≤ 57))) else (some false)
theorem foolscapref07_digit.calls (a0 : Int) (r : Bool) (w : World) (h : foolscapref07_digit.f a0 = some r) :
  Calls Tryz.prog 101 #[.int .u8 a0] w fun e w' => e = .returned (.bool r) ∧ Drawn0 w w' := by
 have H : (if a0 ≥ 48 then (some (decide (a0 ≤ 57))) else (some false)) = some r := h
 clear h
 by_cases c2 : a0 ≥ 48
 ·rw [if_pos c2] at H
  have c2b0 : decide (48 ≤ a0) = true := decide_eq_true c2
  clear c2
  obtain rfl := Option.some.inj H
  go_enter Tryz.func101, Tryz.ntmps101
  go_wp2
  go_ret
  exact ⟨rflS, drA⟩
 ·rw [if_neg c2] at H
  have c2b0 : decide (48 ≤ a0) = false := decide_eq_false c2
  clear c2
  obtain rfl := Option.some.inj H
  go_enter Tryz.func101, Tryz.ntmps101
  go_wp2
  go_ret
  exact ⟨rflS, drA⟩
mutual
def foolscapref07_Name.j0 : Nat → ByteArray → Bool → Option (Bool)
 | 0, _, _ => none
 | k + 1, x0, x17 => if x17 = true then (some false) else (foolscapref07_Name.l0 k x0 0)
def foolscapref07_Name.l0 : Nat → ByteArray → Int → Option (Bool)
 | 0, _, _ => none
 | k + 1, x0, x3 => if x3 < (x0.size : Int) then (if 0 ≤ x3 then ((foolscapref07_letter.f (bt x0 x3)).bind fun t131 => (if t131 = true then (foolscapref07_Name.l0 k x0 (wrap64 (x3 + 1))) else ((foolscapref07_digit.f (bt x0 x3)).bind fun t132 => (if t132 = true then (foolscapref07_Name.l0 k x0 (wrap64 (x3 + 1))) else (if (bt x0 x3) = 46 then (foolscapref07_Name.l0 k x0 (wrap64 (x3 + 1))) else (if (bt x0 x3) = 95 then (foolscapref07_Name.l0 k x0 (wrap64 (x3 + 1))) else (some false))))))) else (none)) else (some true)
end
def foolscapref07_Name.f (k : Nat) (a0 : ByteArray) : Option (Bool) := if (a0.size : Int) < 1 then (foolscapref07_Name.j0 k a0 true) else (if (a0.size : Int) > 20 then (foolscapref07_Name.j0 k a0 true) else (if 0 < (a0.size : Int) then ((foolscapref07_letter.f (bt a0 0)).bind fun t130 => (foolscapref07_Name.j0 k a0 (!t130))) else (none)))
theorem foolscapref07_Name.calls (k : Nat) (a0 : ByteArray) (r : Bool) (w : World) (h : foolscapref07_Name.f k a0 = some r) :
  Calls Tryz.prog 85 #[.string a0] w fun e w' => e = .returned (.bool r) ∧ Drawn0 w w' := by
 have H : (if (a0.size : Int) < 1 then (foolscapref07_Name.j0 k a0 true) else (if (a0.size : Int) > 20 then (foolscapref07_Name.j0 k a0 true) else (if 0 < (a0.size : Int) then ((foolscapref07_letter.f (bt a0 0)).bind fun t130 => (foolscapref07_Name.j0 k a0 (!t130))) else (none)))) = some r := h
 clear h
 have HC2 := Aside0.mk H
 clear H
 go_enter Tryz.func85, Tryz.ntmps85
 go_upto_region 1 with (fail)
 go_cut [17] (fun v17 wc => ∃ (kq : Nat) (x17_1 : Bool), v17 = .bool x17_1 ∧ Aside0 (foolscapref07_Name.j0 kq a0 x17_1 = some r) ∧ Aside0 (kq ≤ k) ∧ Drawn0 w wc)
 case first =>
  have H := HC2.out
  clear HC2
  by_cases c3 : (a0.size : Int) < 1
  ·rw [if_pos c3] at H
   have c3b0 : decide ((a0.size : Int) < 1) = true := decide_eq_true c3
   have c3b1 : decide (a0.size < 1) = true := decide_eq_true (by omega)
   clear c3
   (first | rw [c3b0] | (simp only [i64_w, i32_w]; rw [c3b0]) | skip)
   have H' := Aside0.mk H
   clear H
   go_wp2
   go_meet
   case rel => exact ⟨_, (true), (rflS), H', ⟨by first | omega | exact Nat.le_refl _⟩, drA⟩
  ·rw [if_neg c3] at H
   have c3b0 : decide ((a0.size : Int) < 1) = false := decide_eq_false c3
   have c3b1 : decide (a0.size < 1) = false := decide_eq_false (by omega)
   clear c3
   (first | rw [c3b0] | (simp only [i64_w, i32_w]; rw [c3b0]) | skip)
   by_cases c4 : (a0.size : Int) > 20
   ·rw [if_pos c4] at H
    have c4b0 : decide (20 < (a0.size : Int)) = true := decide_eq_true c4
    have c4b1 : decide (20 < a0.size) = true := decide_eq_true (by omega)
    clear c4
    have H' := Aside0.mk H
    clear H
    go_wp2
    go_meet
    case rel => exact ⟨_, (true), (rflS), H', ⟨by first | omega | exact Nat.le_refl _⟩, drA⟩
   ·rw [if_neg c4] at H
    have c4b0 : decide (20 < (a0.size : Int)) = false := decide_eq_false c4
    have c4b1 : decide (20 < a0.size) = false := decide_eq_false (by omega)
    clear c4
    by_cases c5 : 0 < (a0.size : Int)
    ·rw [if_pos c5] at H
     have c5b0 : decide (0 < (a0.size : Int)) = true := decide_eq_true c5
     have c5b1 : decide (0 < a0.size) = true := decide_eq_true (by omega)
     clear c5
     replace H := Option.bind_eq_some_iff.mp H
     obtain ⟨t130, A70, H⟩ := H
     replace H : (foolscapref07_Name.j0 k a0 (!t130)) = some r := H
     have A7 := Aside0.mk A70
     clear A70
     have H' := Aside0.mk H
     clear H
     have p6 : 0 ≤ (0 : Int) := (by omega)
     have q6 : 0 < a0.size := (by have : (0 : Int) < (a0.size : Int) := of_decide_eq_true kA; omega)
     have hx6 : ∀ h : 0 < a0.size, ((a0[0]'h).toNat : Int) = bt a0 0 := bt_at a0 0
     clear p6
     have qi6 : (0 < (a0.size : Int)) = True := eq_true (of_decide_eq_true kA)
     replace q6 := eq_true q6
     go_wp2_with (first | (go_at_call 100; (with_reducible refine (foolscapref07_letter.calls (bt a0 0) t130 _ A7.out).mono ?_); rintro e w' ⟨rfl, ⟨nd, rfl⟩⟩))
     go_meet
     case rel => exact ⟨_, (!t130), (rflS), H', ⟨by first | omega | exact Nat.le_refl _⟩, drA⟩
    ·rw [if_neg c5] at H
     exact absurd H (by simp)
 case rest =>
  clear HC2
  try clear p2
  try clear c3
  try clear c3b0
  try clear c3b1
  try clear c4
  try clear c4b0
  try clear c4b1
  try clear c5
  try clear c5b0
  try clear c5b1
  try clear p6
  try clear q6
  try clear hx6
  try clear qi6
  try clear p6
  try clear q6
  obtain ⟨kq, x17_1, rfl, HA, HJ1, ⟨mc1, rfl⟩⟩ := hcut
  cases kq with
  | zero => exact absurd HA.out (by simp [foolscapref07_Name.j0])
  | succ kj1 =>
   have H := HA.out
   clear HA
   simp only [foolscapref07_Name.j0] at H
   by_cases c8 : x17_1 = true
   ·subst c8
    have H1 : (some false) = some r := by rw [if_pos rfl] at H; exact H
    clear H
    have H := H1
    clear H1
    obtain rfl := Option.some.inj H
    go_wp2
    go_ret
    exact ⟨rflS, drA⟩
   ·replace c8 := Bool.eq_false_iff.mpr c8
    subst c8
    have H1 : (foolscapref07_Name.l0 kj1 a0 0) = some r := by rw [if_neg (show ¬ (false = true) by decide)] at H; exact H
    clear H
    have H := H1
    clear H1
    have H' := Aside0.mk H
    clear H
    go_wp2
    go_loopg [3] kj1 (fun kq v3 w' => ∃ (x3_2 : Int), v3 = .int .i64 x3_2 ∧ Aside0 (foolscapref07_Name.l0 kq a0 x3_2 = some r) ∧ Aside0 (kq ≤ kj1) ∧ Drawn0 w w')
    case atStart => exact ⟨(0), (rflS), H', ⟨Nat.le_refl _⟩, drA⟩
    case round =>
     clear H'
     try clear c1
     try clear p2
     try clear c3
     try clear c3b0
     try clear c3b1
     try clear c4
     try clear c4b0
     try clear c4b1
     try clear c5
     try clear c5b0
     try clear c5b1
     try clear p6
     try clear q6
     try clear hx6
     try clear qi6
     try clear c8
     try clear p2
     try clear p6
     try clear q6
     obtain ⟨x3_2, rfl, HA, HK2, ⟨m2, rfl⟩⟩ := hrel
     cases gk with
     | zero => exact absurd HA.out (by simp [foolscapref07_Name.l0])
     | succ k2 =>
      have H := HA.out
      clear HA
      simp only [foolscapref07_Name.l0] at H
      by_cases c9 : x3_2 < (a0.size : Int)
      ·rw [if_pos c9] at H
       have c9b0 : decide (x3_2 < (a0.size : Int)) = true := decide_eq_true c9
       clear c9
       by_cases c10 : 0 ≤ x3_2
       ·rw [if_pos c10] at H
        have c10b0 : decide (0 ≤ x3_2) = true := decide_eq_true c10
        clear c10
        replace H := Option.bind_eq_some_iff.mp H
        obtain ⟨t131, A120, H⟩ := H
        replace H : (if t131 = true then (foolscapref07_Name.l0 k2 a0 (wrap64 (x3_2 + 1))) else ((foolscapref07_digit.f (bt a0 x3_2)).bind fun t132 => (if t132 = true then (foolscapref07_Name.l0 k2 a0 (wrap64 (x3_2 + 1))) else (if (bt a0 x3_2) = 46 then (foolscapref07_Name.l0 k2 a0 (wrap64 (x3_2 + 1))) else (if (bt a0 x3_2) = 95 then (foolscapref07_Name.l0 k2 a0 (wrap64 (x3_2 + 1))) else (some false)))))) = some r := H
        have A12 := Aside0.mk A120
        clear A120
        by_cases c13 : t131 = true
        ·subst c13
         have H1 : (foolscapref07_Name.l0 k2 a0 (wrap64 (x3_2 + 1))) = some r := by rw [if_pos rfl] at H; exact H
         clear H
         have H := H1
         clear H1
         have H' := Aside0.mk H
         clear H
         have p11 : 0 ≤ (x3_2 : Int) := of_decide_eq_true kA
         have q11 : x3_2 < (a0.size : Int) := of_decide_eq_true kA
         have hx11 := bt_at a0 x3_2
         replace p11 := eq_true p11
         replace q11 := eq_true q11
         go_wp2_with (first | ((with_reducible refine gate_callee (f := 100) rfl ?_); refine goesL_ (some 27) rfl rfl Tryz.func100 (by kernel_rfl) rfl #[.int .u8 (bt a0 x3_2)] rfl argA ?_; (with_reducible refine (foolscapref07_letter.calls (bt a0 x3_2) true _ A12.out).mono ?_); rintro e w' ⟨rfl, ⟨nd, rfl⟩⟩; refine ⟨_, rfl, ?_⟩))
         go_roundg k2
         case measure => have := HJ1.out; have := HK2.out; omega
         case rel => exact ⟨(wrap64 (x3_2 + 1)), (rflS), H', ⟨by have := HJ1.out; have := HK2.out; omega⟩, drA⟩
        ·replace c13 := Bool.eq_false_iff.mpr c13
         subst c13
         have H1 : ((foolscapref07_digit.f (bt a0 x3_2)).bind fun t132 => (if t132 = true then (foolscapref07_Name.l0 k2 a0 (wrap64 (x3_2 + 1))) else (if (bt a0 x3_2) = 46 then (foolscapref07_Name.l0 k2 a0 (wrap64 (x3_2 + 1))) else (if (bt a0 x3_2) = 95 then (foolscapref07_Name.l0 k2 a0 (wrap64 (x3_2 + 1))) else (some false))))) = some r := by rw [if_neg (show ¬ (false = true) by decide)] at H; exact H
         clear H
         have H := H1
         clear H1
         replace H := Option.bind_eq_some_iff.mp H
         obtain ⟨t132, A150, H⟩ := H
         replace H : (if t132 = true then (foolscapref07_Name.l0 k2 a0 (wrap64 (x3_2 + 1))) else (if (bt a0 x3_2) = 46 then (foolscapref07_Name.l0 k2 a0 (wrap64 (x3_2 + 1))) else (if (bt a0 x3_2) = 95 then (foolscapref07_Name.l0 k2 a0 (wrap64 (x3_2 + 1))) else (some false)))) = some r := H
         have A15 := Aside0.mk A150
         clear A150
         by_cases c16 : t132 = true
         ·subst c16
          have H1 : (foolscapref07_Name.l0 k2 a0 (wrap64 (x3_2 + 1))) = some r := by rw [if_pos rfl] at H; exact H
          clear H
          have H := H1
          clear H1
          have H' := Aside0.mk H
          clear H
          have p11 : 0 ≤ (x3_2 : Int) := of_decide_eq_true kA
          have q11 : x3_2 < (a0.size : Int) := of_decide_eq_true kA
          have hx11 := bt_at a0 x3_2
          replace p11 := eq_true p11
          replace q11 := eq_true q11
          go_wp2_with (first | ((with_reducible refine gate_callee (f := 100) rfl ?_); refine goesL_ (some 27) rfl rfl Tryz.func100 (by kernel_rfl) rfl #[.int .u8 (bt a0 x3_2)] rfl argA ?_; (with_reducible refine (foolscapref07_letter.calls (bt a0 x3_2) false _ A12.out).mono ?_); rintro e w' ⟨rfl, ⟨nd, rfl⟩⟩; refine ⟨_, rfl, ?_⟩; have p14 : 0 ≤ (x3_2 : Int) := of_decide_eq_true kA; have q14 : x3_2 < (a0.size : Int) := of_decide_eq_true kA; have hx14 := bt_at a0 x3_2; replace p14 := eq_true p14; replace q14 := eq_true q14) | (go_at_call 101; (with_reducible refine (foolscapref07_digit.calls (bt a0 x3_2) true _ A15.out).mono ?_); rintro e w' ⟨rfl, ⟨nd, rfl⟩⟩))
          go_roundg k2
          case measure => have := HJ1.out; have := HK2.out; omega
          case rel => exact ⟨(wrap64 (x3_2 + 1)), (rflS), H', ⟨by have := HJ1.out; have := HK2.out; omega⟩, drA⟩
         ·replace c16 := Bool.eq_false_iff.mpr c16
          subst c16
          have H1 : (if (bt a0 x3_2) = 46 then (foolscapref07_Name.l0 k2 a0 (wrap64 (x3_2 + 1))) else (if (bt a0 x3_2) = 95 then (foolscapref07_Name.l0 k2 a0 (wrap64 (x3_2 + 1))) else (some false))) = some r := by rw [if_neg (show ¬ (false = true) by decide)] at H; exact H
          clear H
          have H := H1
          clear H1
          by_cases c18 : (bt a0 x3_2) = 46
          ·rw [if_pos c18] at H
           have c18b0 : ((bt a0 x3_2) == 46) = true := beq_iff_eq.mpr c18
           have c18b1 : ((bt a0 x3_2) != 46) = false := bne_eq_false_iff_eq.mpr c18
           clear c18
           have H' := Aside0.mk H
           clear H
           have p11 : 0 ≤ (x3_2 : Int) := of_decide_eq_true kA
           have q11 : x3_2 < (a0.size : Int) := of_decide_eq_true kA
           have hx11 := bt_at a0 x3_2
           replace p11 := eq_true p11
           replace q11 := eq_true q11
           go_wp2_with (first | ((with_reducible refine gate_callee (f := 100) rfl ?_); refine goesL_ (some 27) rfl rfl Tryz.func100 (by kernel_rfl) rfl #[.int .u8 (bt a0 x3_2)] rfl argA ?_; (with_reducible refine (foolscapref07_letter.calls (bt a0 x3_2) false _ A12.out).mono ?_); rintro e w' ⟨rfl, ⟨nd, rfl⟩⟩; refine ⟨_, rfl, ?_⟩; have p14 : 0 ≤ (x3_2 : Int) := of_decide_eq_true kA; have q14 : x3_2 < (a0.size : Int) := of_decide_eq_true kA; have hx14 := bt_at a0 x3_2; replace p14 := eq_true p14; replace q14 := eq_true q14) | (go_at_call 101; (with_reducible refine (foolscapref07_digit.calls (bt a0 x3_2) false _ A15.out).mono ?_); rintro e w' ⟨rfl, ⟨nd, rfl⟩⟩; have p17 : 0 ≤ (x3_2 : Int) := of_decide_eq_true kA; have q17 : x3_2 < (a0.size : Int) := of_decide_eq_true kA; have hx17 := bt_at a0 x3_2; replace p17 := eq_true p17; replace q17 := eq_true q17))
           go_roundg k2
           case measure => have := HJ1.out; have := HK2.out; omega
           case rel => exact ⟨(wrap64 (x3_2 + 1)), (rflS), H', ⟨by have := HJ1.out; have := HK2.out; omega⟩, drA⟩
          ·rw [if_neg c18] at H
           have c18b0 : ((bt a0 x3_2) == 46) = false := beq_eq_false_iff_ne.mpr c18
           have c18b1 : ((bt a0 x3_2) != 46) = true := bne_iff_ne.mpr c18
           by_cases c20 : (bt a0 x3_2) = 95
           ·rw [if_pos c20] at H
            have c20b0 : ((bt a0 x3_2) == 95) = true := beq_iff_eq.mpr c20
            have c20b1 : ((bt a0 x3_2) != 95) = false := bne_eq_false_iff_eq.mpr c20
            clear c20
            have H' := Aside0.mk H
            clear H
            have p11 : 0 ≤ (x3_2 : Int) := of_decide_eq_true kA
            have q11 : x3_2 < (a0.size : Int) := of_decide_eq_true kA
            have hx11 := bt_at a0 x3_2
            replace p11 := eq_true p11
            replace q11 := eq_true q11
            go_wp2_with (first | ((with_reducible refine gate_callee (f := 100) rfl ?_); refine goesL_ (some 27) rfl rfl Tryz.func100 (by kernel_rfl) rfl #[.int .u8 (bt a0 x3_2)] rfl argA ?_; (with_reducible refine (foolscapref07_letter.calls (bt a0 x3_2) false _ A12.out).mono ?_); rintro e w' ⟨rfl, ⟨nd, rfl⟩⟩; refine ⟨_, rfl, ?_⟩; have p14 : 0 ≤ (x3_2 : Int) := of_decide_eq_true kA; have q14 : x3_2 < (a0.size : Int) := of_decide_eq_true kA; have hx14 := bt_at a0 x3_2; replace p14 := eq_true p14; replace q14 := eq_true q14) | (go_at_call 101; (with_reducible refine (foolscapref07_digit.calls (bt a0 x3_2) false _ A15.out).mono ?_); rintro e w' ⟨rfl, ⟨nd, rfl⟩⟩; have p17 : 0 ≤ (x3_2 : Int) := of_decide_eq_true kA; have q17 : x3_2 < (a0.size : Int) := of_decide_eq_true kA; have hx17 := bt_at a0 x3_2; replace p17 := eq_true p17; replace q17 := eq_true q17; have p19 : 0 ≤ (x3_2 : Int) := of_decide_eq_true kA; have q19 : x3_2 < (a0.size : Int) := of_decide_eq_true kA; have hx19 := bt_at a0 x3_2; replace p19 := eq_true p19; replace q19 := eq_true q19))
            go_roundg k2
            case measure => have := HJ1.out; have := HK2.out; omega
            case rel => exact ⟨(wrap64 (x3_2 + 1)), (rflS), H', ⟨by have := HJ1.out; have := HK2.out; omega⟩, drA⟩
           ·rw [if_neg c20] at H
            have c20b0 : ((bt a0 x3_2) == 95) = false := beq_eq_false_iff_ne.mpr c20
            have c20b1 : ((bt a0 x3_2) != 95) = true := bne_iff_ne.mpr c20
            obtain rfl := Option.some.inj H
            have p11 : 0 ≤ (x3_2 : Int) := of_decide_eq_true kA
            have q11 : x3_2 < (a0.size : Int) := of_decide_eq_true kA
            have hx11 := bt_at a0 x3_2
            replace p11 := eq_true p11
            replace q11 := eq_true q11
            go_wp2_with (first | ((with_reducible refine gate_callee (f := 100) rfl ?_); refine goesL_ (some 27) rfl rfl Tryz.func100 (by kernel_rfl) rfl #[.int .u8 (bt a0 x3_2)] rfl argA ?_; (with_reducible refine (foolscapref07_letter.calls (bt a0 x3_2) false _ A12.out).mono ?_); rintro e w' ⟨rfl, ⟨nd, rfl⟩⟩; refine ⟨_, rfl, ?_⟩; have p14 : 0 ≤ (x3_2 : Int) := of_decide_eq_true kA; have q14 : x3_2 < (a0.size : Int) := of_decide_eq_true kA; have hx14 := bt_at a0 x3_2; replace p14 := eq_true p14; replace q14 := eq_true q14) | (go_at_call 101; (with_reducible refine (foolscapref07_digit.calls (bt a0 x3_2) false _ A15.out).mono ?_); rintro e w' ⟨rfl, ⟨nd, rfl⟩⟩; have p17 : 0 ≤ (x3_2 : Int) := of_decide_eq_true kA; have q17 : x3_2 < (a0.size : Int) := of_decide_eq_true kA; have hx17 := bt_at a0 x3_2; replace p17 := eq_true p17; replace q17 := eq_true q17; have p19 : 0 ≤ (x3_2 : Int) := of_decide_eq_true kA; have q19 : x3_2 < (a0.size : Int) := of_decide_eq_true kA; have hx19 := bt_at a0 x3_2; replace p19 := eq_true p19; replace q19 := eq_true q19))
            go_ret
            exact ⟨rflS, drA⟩
       ·rw [if_neg c10] at H
        exact absurd H (by simp)
      ·rw [if_neg c9] at H
       have c9b0 : decide (x3_2 < (a0.size : Int)) = false := decide_eq_false c9
       clear c9
       obtain rfl := Option.some.inj H
       go_wp2
       go_ret
       exact ⟨rflS, drA⟩
end Go.Proofs.YtopdjokncbpghaaGreatDoor.Pr
end
section
namespace Go.Proofs.YtopdjokncbpghaaGreatDoor.Pr
open Go.RowKit Go.Proofs.YtopdjokncbpghaaGreatDoorW.PrintWords Go.Proofs.YtopdjokncbpghaaGreatDoorW.PrintLast Go.Proofs.YtopdjokncbpghaaGreatDoorW.PrintMore
attribute [local go_sem] max2_int min2_int max_two min_two max_three min_three max_four min_four   -- for this text's walks alone
def foolscapref07_row.l0 : Nat → ByteArray → Int → Bool → Int → Option (Int)
 | 0, _, _, _, _ => none
 | k + 1, x0, x1, x2, x7 => if (wrap64 (x1 + x7)) < (x0.size : Int) then (if 0 ≤ (wrap64 (x1 + x7)) then ((foolscapref07_digit.f (bt x0 (wrap64 (x1 + x7)))).bind fun t133 => (if t133 = true then (foolscapref07_row.l0 k x0 x1 x2 (wrap64 (x7 + 1))) else (if (bt x0 (wrap64 (x1 + x7))) = 46 then (foolscapref07_row.l0 k x0 x1 x2 (wrap64 (x7 + 1))) else (if x2 = true then ((foolscapref07_letter.f (bt x0 (wrap64 (x1 + x7)))).bind fun t134 => (if t134 = true then (foolscapref07_row.l0 k x0 x1 x2 (wrap64 (x7 + 1))) else (if (bt x0 (wrap64 (x1 + x7))) = 36 then (foolscapref07_row.l0 k x0 x1 x2 (wrap64 (x7 + 1))) else (if (bt x0 (wrap64 (x1 + x7))) = 95 then (foolscapref07_row.l0 k x0 x1 x2 (wrap64 (x7 + 1))) else (some x7))))) else (some x7))))) else (none)) else (some x7)
def foolscapref07_row.f (k : Nat) (a0 : ByteArray) (a1 : Int) (a2 : Bool) : Option (Int) := foolscapref07_row.l0 k a0 a1 a2 0
theorem foolscapref07_row.calls (k : Nat) (a0 : ByteArray) (a1 : Int) (a2 : Bool) (r : Int) (w : World) (h : foolscapref07_row.f k a0 a1 a2 = some r) :
  Calls Tryz.prog 132 #[.string a0, .int .i64 a1, .bool a2] w fun e w' => e = .returned (.int .i64 r) ∧ Drawn0 w w' := by
 have H : (foolscapref07_row.l0 k a0 a1 a2 0) = some r := h
 clear h
 have H' := Aside0.mk H
 clear H
 go_enter Tryz.func132, Tryz.ntmps132
 go_wp2
 go_loopg [7] k (fun kq v7 w' => ∃ (x7_1 : Int), v7 = .int .i64 x7_1 ∧ Aside0 (foolscapref07_row.l0 kq a0 a1 a2 x7_1 = some r) ∧ Aside0 (kq ≤ k) ∧ Drawn0 w w')
 case atStart => exact ⟨(0), (rflS), H', ⟨Nat.le_refl _⟩, drA⟩
 case round =>
  clear H'
  try clear c1
  try clear p2
  obtain ⟨x7_1, rfl, HA, HK1, ⟨m1, rfl⟩⟩ := hrel
  cases gk with
  | zero => exact absurd HA.out (by simp [foolscapref07_row.l0])
  | succ k1 =>
   have H := HA.out
   clear HA
   simp only [foolscapref07_row.l0] at H
   by_cases c4 : (wrap64 (a1 + x7_1)) < (a0.size : Int)
   ·rw [if_pos c4] at H
    have c4b0 : decide ((wrap64 (a1 + x7_1)) < (a0.size : Int)) = true := decide_eq_true c4
    clear c4
    obtain ⟨ji5, hji5⟩ : ∃ j_ : Int, (wrap64 (a1 + x7_1)) = j_ := ⟨_, rfl⟩
    replace H : (if 0 ≤ (ji5) then ((foolscapref07_digit.f (bt a0 (ji5))).bind fun t133 => (if t133 = true then (foolscapref07_row.l0 k1 a0 a1 a2 (wrap64 (x7_1 + 1))) else (if (bt a0 (ji5)) = 46 then (foolscapref07_row.l0 k1 a0 a1 a2 (wrap64 (x7_1 + 1))) else (if a2 = true then ((foolscapref07_letter.f (bt a0 (ji5))).bind fun t134 => (if t134 = true then (foolscapref07_row.l0 k1 a0 a1 a2 (wrap64 (x7_1 + 1))) else (if (bt a0 (ji5)) = 36 then (foolscapref07_row.l0 k1 a0 a1 a2 (wrap64 (x7_1 + 1))) else (if (bt a0 (ji5)) = 95 then (foolscapref07_row.l0 k1 a0 a1 a2 (wrap64 (x7_1 + 1))) else (some x7_1))))) else (some x7_1))))) else (none)) = some r := by first | (rw [hji5] at H; exact H) | (simp only [hji5] at H ⊢; exact H)
    (try rw [hji5] at c4b0)
    have hji5w : (IntKind.i64.wrap (a1 + x7_1)) = ji5 := (i64_w _).trans hji5
    by_cases c6 : 0 ≤ (ji5)
    ·rw [if_pos c6] at H
     have c6b0 : decide (0 ≤ (ji5)) = true := decide_eq_true c6
     clear c6
     replace H := Option.bind_eq_some_iff.mp H
     obtain ⟨t133, A80, H⟩ := H
     replace H : (if t133 = true then (foolscapref07_row.l0 k1 a0 a1 a2 (wrap64 (x7_1 + 1))) else (if (bt a0 (ji5)) = 46 then (foolscapref07_row.l0 k1 a0 a1 a2 (wrap64 (x7_1 + 1))) else (if a2 = true then ((foolscapref07_letter.f (bt a0 (ji5))).bind fun t134 => (if t134 = true then (foolscapref07_row.l0 k1 a0 a1 a2 (wrap64 (x7_1 + 1))) else (if (bt a0 (ji5)) = 36 then (foolscapref07_row.l0 k1 a0 a1 a2 (wrap64 (x7_1 + 1))) else (if (bt a0 (ji5)) = 95 then (foolscapref07_row.l0 k1 a0 a1 a2 (wrap64 (x7_1 + 1))) else (some x7_1))))) else (some x7_1)))) = some r := H
     have A8 := Aside0.mk A80
     clear A80
     by_cases c9 : t133 = true
     ·subst c9
      have H1 : (foolscapref07_row.l0 k1 a0 a1 a2 (wrap64 (x7_1 + 1))) = some r := by rw [if_pos rfl] at H; exact H
      clear H
      have H := H1
      clear H1
      have H' := Aside0.mk H
      clear H
      have p7 : 0 ≤ ((ji5) : Int) := of_decide_eq_true kA
      have q7 : (ji5) < (a0.size : Int) := of_decide_eq_true kA
      have hx7 := bt_at a0 (ji5)
      replace p7 := eq_true p7
      replace q7 := eq_true q7
      go_wp2_with (first | ((with_reducible refine gate_callee (f := 101) rfl ?_); refine goesL_ (some 21) rfl rfl Tryz.func101 (by kernel_rfl) rfl #[.int .u8 (bt a0 (ji5))] rfl (by (try simp only [List.map_toArray, List.map_cons, List.map_nil]); first | done | (simp only [hji5]; rfl) | rfl | (simp only [List.length_drop, List.length_take]; rfl) | (simp only [ByteArray.size_append, Int.natCast_add]; done) | (simp only [ByteArray.size_append, Int.natCast_add]; rfl) | (simp only [Array.mk.injEq, List.cons.injEq, Value.int.injEq, true_and, and_true]; (try simp only [mx, mn, wrap64] at *); omega)) ?_; (with_reducible refine (foolscapref07_digit.calls (bt a0 (ji5)) true _ A8.out).mono ?_); rintro e w' ⟨rfl, ⟨nd, rfl⟩⟩; refine ⟨_, rfl, ?_⟩))
      go_roundg k1
      case measure => have := HK1.out; omega
      case rel => exact ⟨(wrap64 (x7_1 + 1)), (rflS), H', ⟨by have := HK1.out; omega⟩, drA⟩
     ·replace c9 := Bool.eq_false_iff.mpr c9
      subst c9
      have H1 : (if (bt a0 (ji5)) = 46 then (foolscapref07_row.l0 k1 a0 a1 a2 (wrap64 (x7_1 + 1))) else (if a2 = true then ((foolscapref07_letter.f (bt a0 (ji5))).bind fun t134 => (if t134 = true then (foolscapref07_row.l0 k1 a0 a1 a2 (wrap64 (x7_1 + 1))) else (if (bt a0 (ji5)) = 36 then (foolscapref07_row.l0 k1 a0 a1 a2 (wrap64 (x7_1 + 1))) else (if (bt a0 (ji5)) = 95 then (foolscapref07_row.l0 k1 a0 a1 a2 (wrap64 (x7_1 + 1))) else (some x7_1))))) else (some x7_1))) = some r := by rw [if_neg (show ¬ (false = true) by decide)] at H; exact H
      clear H
      have H := H1
      clear H1
      by_cases c10 : (bt a0 (ji5)) = 46
      ·rw [if_pos c10] at H
       have c10b0 : ((bt a0 (ji5)) == 46) = true := beq_iff_eq.mpr c10
       have c10b1 : ((bt a0 (ji5)) != 46) = false := bne_eq_false_iff_eq.mpr c10
       clear c10
       have H' := Aside0.mk H
       clear H
       have p7 : 0 ≤ ((ji5) : Int) := of_decide_eq_true kA
       have q7 : (ji5) < (a0.size : Int) := of_decide_eq_true kA
       have hx7 := bt_at a0 (ji5)
       replace p7 := eq_true p7
       replace q7 := eq_true q7
       go_wp2_with (first | ((with_reducible refine gate_callee (f := 101) rfl ?_); refine goesL_ (some 21) rfl rfl Tryz.func101 (by kernel_rfl) rfl #[.int .u8 (bt a0 (ji5))] rfl (by (try simp only [List.map_toArray, List.map_cons, List.map_nil]); first | done | (simp only [hji5]; rfl) | rfl | (simp only [List.length_drop, List.length_take]; rfl) | (simp only [ByteArray.size_append, Int.natCast_add]; done) | (simp only [ByteArray.size_append, Int.natCast_add]; rfl) | (simp only [Array.mk.injEq, List.cons.injEq, Value.int.injEq, true_and, and_true]; (try simp only [mx, mn, wrap64] at *); omega)) ?_; (with_reducible refine (foolscapref07_digit.calls (bt a0 (ji5)) false _ A8.out).mono ?_); rintro e w' ⟨rfl, ⟨nd, rfl⟩⟩; refine ⟨_, rfl, ?_⟩))
       go_roundg k1
       case measure => have := HK1.out; omega
       case rel => exact ⟨(wrap64 (x7_1 + 1)), (rflS), H', ⟨by have := HK1.out; omega⟩, drA⟩
      ·rw [if_neg c10] at H
       have c10b0 : ((bt a0 (ji5)) == 46) = false := beq_eq_false_iff_ne.mpr c10
       have c10b1 : ((bt a0 (ji5)) != 46) = true := bne_iff_ne.mpr c10
       by_cases c11 : a2 = true
       ·subst c11
        have H1 : ((foolscapref07_letter.f (bt a0 (ji5))).bind fun t134 => (if t134 = true then (foolscapref07_row.l0 k1 a0 a1 true (wrap64 (x7_1 + 1))) else (if (bt a0 (ji5)) = 36 then (foolscapref07_row.l0 k1 a0 a1 true (wrap64 (x7_1 + 1))) else (if (bt a0 (ji5)) = 95 then (foolscapref07_row.l0 k1 a0 a1 true (wrap64 (x7_1 + 1))) else (some x7_1))))) = some r := by rw [if_pos rfl] at H; exact H
        clear H
        have H := H1
        clear H1
        replace H := Option.bind_eq_some_iff.mp H
        obtain ⟨t134, A120, H⟩ := H
        replace H : (if t134 = true then (foolscapref07_row.l0 k1 a0 a1 true (wrap64 (x7_1 + 1))) else (if (bt a0 (ji5)) = 36 then (foolscapref07_row.l0 k1 a0 a1 true (wrap64 (x7_1 + 1))) else (if (bt a0 (ji5)) = 95 then (foolscapref07_row.l0 k1 a0 a1 true (wrap64 (x7_1 + 1))) else (some x7_1)))) = some r := H
        have A12 := Aside0.mk A120
        clear A120
        by_cases c13 : t134 = true
        ·subst c13
         have H1 : (foolscapref07_row.l0 k1 a0 a1 true (wrap64 (x7_1 + 1))) = some r := by rw [if_pos rfl] at H; exact H
         clear H
         have H := H1
         clear H1
         have H' := Aside0.mk H
         clear H
         have p7 : 0 ≤ ((ji5) : Int) := of_decide_eq_true kA
         have q7 : (ji5) < (a0.size : Int) := of_decide_eq_true kA
         have hx7 := bt_at a0 (ji5)
         replace p7 := eq_true p7
         replace q7 := eq_true q7
         go_wp2_with (first | ((with_reducible refine gate_callee (f := 101) rfl ?_); refine goesL_ (some 21) rfl rfl Tryz.func101 (by kernel_rfl) rfl #[.int .u8 (bt a0 (ji5))] rfl (by (try simp only [List.map_toArray, List.map_cons, List.map_nil]); first | done | (simp only [hji5]; rfl) | rfl | (simp only [List.length_drop, List.length_take]; rfl) | (simp only [ByteArray.size_append, Int.natCast_add]; done) | (simp only [ByteArray.size_append, Int.natCast_add]; rfl) | (simp only [Array.mk.injEq, List.cons.injEq, Value.int.injEq, true_and, and_true]; (try simp only [mx, mn, wrap64] at *); omega)) ?_; (with_reducible refine (foolscapref07_digit.calls (bt a0 (ji5)) false _ A8.out).mono ?_); rintro e w' ⟨rfl, ⟨nd, rfl⟩⟩; refine ⟨_, rfl, ?_⟩) | (go_at_call 100; (with_reducible refine (foolscapref07_letter.calls (bt a0 (ji5)) true _ A12.out).mono ?_); rintro e w' ⟨rfl, ⟨nd, rfl⟩⟩))
         go_roundg k1
         case measure => have := HK1.out; omega
         case rel => exact ⟨(wrap64 (x7_1 + 1)), (rflS), H', ⟨by have := HK1.out; omega⟩, drA⟩
        ·replace c13 := Bool.eq_false_iff.mpr c13
         subst c13
         have H1 : (if (bt a0 (ji5)) = 36 then (foolscapref07_row.l0 k1 a0 a1 true (wrap64 (x7_1 + 1))) else (if (bt a0 (ji5)) = 95 then (foolscapref07_row.l0 k1 a0 a1 true (wrap64 (x7_1 + 1))) else (some x7_1))) = some r := by rw [if_neg (show ¬ (false = true) by decide)] at H; exact H
         clear H
         have H := H1
         clear H1
         by_cases c14 : (bt a0 (ji5)) = 36
         ·rw [if_pos c14] at H
          have c14b0 : ((bt a0 (ji5)) == 36) = true := beq_iff_eq.mpr c14
          have c14b1 : ((bt a0 (ji5)) != 36) = false := bne_eq_false_iff_eq.mpr c14
          clear c14
          have H' := Aside0.mk H
          clear H
          have p7 : 0 ≤ ((ji5) : Int) := of_decide_eq_true kA
          have q7 : (ji5) < (a0.size : Int) := of_decide_eq_true kA
          have hx7 := bt_at a0 (ji5)
          replace p7 := eq_true p7
          replace q7 := eq_true q7
          go_wp2_with (first | ((with_reducible refine gate_callee (f := 101) rfl ?_); refine goesL_ (some 21) rfl rfl Tryz.func101 (by kernel_rfl) rfl #[.int .u8 (bt a0 (ji5))] rfl (by (try simp only [List.map_toArray, List.map_cons, List.map_nil]); first | done | (simp only [hji5]; rfl) | rfl | (simp only [List.length_drop, List.length_take]; rfl) | (simp only [ByteArray.size_append, Int.natCast_add]; done) | (simp only [ByteArray.size_append, Int.natCast_add]; rfl) | (simp only [Array.mk.injEq, List.cons.injEq, Value.int.injEq, true_and, and_true]; (try simp only [mx, mn, wrap64] at *); omega)) ?_; (with_reducible refine (foolscapref07_digit.calls (bt a0 (ji5)) false _ A8.out).mono ?_); rintro e w' ⟨rfl, ⟨nd, rfl⟩⟩; refine ⟨_, rfl, ?_⟩) | (go_at_call 100; (with_reducible refine (foolscapref07_letter.calls (bt a0 (ji5)) false _ A12.out).mono ?_); rintro e w' ⟨rfl, ⟨nd, rfl⟩⟩))
          go_roundg k1
          case measure => have := HK1.out; omega
          case rel => exact ⟨(wrap64 (x7_1 + 1)), (rflS), H', ⟨by have := HK1.out; omega⟩, drA⟩
         ·rw [if_neg c14] at H
          have c14b0 : ((bt a0 (ji5)) == 36) = false := beq_eq_false_iff_ne.mpr c14
          have c14b1 : ((bt a0 (ji5)) != 36) = true := bne_iff_ne.mpr c14
          by_cases c15 : (bt a0 (ji5)) = 95
          ·rw [if_pos c15] at H
           have c15b0 : ((bt a0 (ji5)) == 95) = true := beq_iff_eq.mpr c15
           have c15b1 : ((bt a0 (ji5)) != 95) = false := bne_eq_false_iff_eq.mpr c15
           clear c15
           have H' := Aside0.mk H
           clear H
           have p7 : 0 ≤ ((ji5) : Int) := of_decide_eq_true kA
           have q7 : (ji5) < (a0.size : Int) := of_decide_eq_true kA
           have hx7 := bt_at a0 (ji5)
           replace p7 := eq_true p7
           replace q7 := eq_true q7
           go_wp2_with (first | ((with_reducible refine gate_callee (f := 101) rfl ?_); refine goesL_ (some 21) rfl rfl Tryz.func101 (by kernel_rfl) rfl #[.int .u8 (bt a0 (ji5))] rfl (by (try simp only [List.map_toArray, List.map_cons, List.map_nil]); first | done | (simp only [hji5]; rfl) | rfl | (simp only [List.length_drop, List.length_take]; rfl) | (simp only [ByteArray.size_append, Int.natCast_add]; done) | (simp only [ByteArray.size_append, Int.natCast_add]; rfl) | (simp only [Array.mk.injEq, List.cons.injEq, Value.int.injEq, true_and, and_true]; (try simp only [mx, mn, wrap64] at *); omega)) ?_; (with_reducible refine (foolscapref07_digit.calls (bt a0 (ji5)) false _ A8.out).mono ?_); rintro e w' ⟨rfl, ⟨nd, rfl⟩⟩; refine ⟨_, rfl, ?_⟩) | (go_at_call 100; (with_reducible refine (foolscapref07_letter.calls (bt a0 (ji5)) false _ A12.out).mono ?_); rintro e w' ⟨rfl, ⟨nd, rfl⟩⟩))
           go_roundg k1
           case measure => have := HK1.out; omega
           case rel => exact ⟨(wrap64 (x7_1 + 1)), (rflS), H', ⟨by have := HK1.out; omega⟩, drA⟩
          ·rw [if_neg c15] at H
           have c15b0 : ((bt a0 (ji5)) == 95) = false := beq_eq_false_iff_ne.mpr c15
           have c15b1 : ((bt a0 (ji5)) != 95) = true := bne_iff_ne.mpr c15
           obtain rfl := Option.some.inj H
           have p7 : 0 ≤ ((ji5) : Int) := of_decide_eq_true kA
           have q7 : (ji5) < (a0.size : Int) := of_decide_eq_true kA
           have hx7 := bt_at a0 (ji5)
           replace p7 := eq_true p7
           replace q7 := eq_true q7
           go_wp2_with (first | ((with_reducible refine gate_callee (f := 101) rfl ?_); refine goesL_ (some 21) rfl rfl Tryz.func101 (by kernel_rfl) rfl #[.int .u8 (bt a0 (ji5))] rfl (by (try simp only [List.map_toArray, List.map_cons, List.map_nil]); first | done | (simp only [hji5]; rfl) | rfl | (simp only [List.length_drop, List.length_take]; rfl) | (simp only [ByteArray.size_append, Int.natCast_add]; done) | (simp only [ByteArray.size_append, Int.natCast_add]; rfl) | (simp only [Array.mk.injEq, List.cons.injEq, Value.int.injEq, true_and, and_true]; (try simp only [mx, mn, wrap64] at *); omega)) ?_; (with_reducible refine (foolscapref07_digit.calls (bt a0 (ji5)) false _ A8.out).mono ?_); rintro e w' ⟨rfl, ⟨nd, rfl⟩⟩; refine ⟨_, rfl, ?_⟩) | (go_at_call 100; (with_reducible refine (foolscapref07_letter.calls (bt a0 (ji5)) false _ A12.out).mono ?_); rintro e w' ⟨rfl, ⟨nd, rfl⟩⟩))
           go_ret
           exact ⟨by first | rfl | (simp; done) | (simp only [← hji5] <;> (first | rfl | simp)) | (simp [*]; done), drA⟩
       ·replace c11 := Bool.eq_false_iff.mpr c11
        subst c11
        have H1 : (some x7_1) = some r := by rw [if_neg (show ¬ (false = true) by decide)] at H; exact H
        clear H
        have H := H1
        clear H1
        obtain rfl := Option.some.inj H
        have p7 : 0 ≤ ((ji5) : Int) := of_decide_eq_true kA
        have q7 : (ji5) < (a0.size : Int) := of_decide_eq_true kA
        have hx7 := bt_at a0 (ji5)
        replace p7 := eq_true p7
        replace q7 := eq_true q7
        go_wp2_with (first | ((with_reducible refine gate_callee (f := 101) rfl ?_); refine goesL_ (some 21) rfl rfl Tryz.func101 (by kernel_rfl) rfl #[.int .u8 (bt a0 (ji5))] rfl (by (try simp only [List.map_toArray, List.map_cons, List.map_nil]); first | done | (simp only [hji5]; rfl) | rfl | (simp only [List.length_drop, List.length_take]; rfl) | (simp only [ByteArray.size_append, Int.natCast_add]; done) | (simp only [ByteArray.size_append, Int.natCast_add]; rfl) | (simp only [Array.mk.injEq, List.cons.injEq, Value.int.injEq, true_and, and_true]; (try simp only [mx, mn, wrap64] at *); omega)) ?_; (with_reducible refine (foolscapref07_digit.calls (bt a0 (ji5)) false _ A8.out).mono ?_); rintro e w' ⟨rfl, ⟨nd, rfl⟩⟩; refine ⟨_, rfl, ?_⟩))
        go_ret
        exact ⟨by first | rfl | (simp; done) | (simp only [← hji5] <;> (first | rfl | simp)) | (simp [*]; done), drA⟩
    ·rw [if_neg c6] at H
     exact absurd H (by simp)
   ·rw [if_neg c4] at H
    have c4b0 : decide ((wrap64 (a1 + x7_1)) < (a0.size : Int)) = false := decide_eq_false c4
    clear c4
    obtain rfl := Option.some.inj H
    go_wp2
    go_ret
    exact ⟨rflS, drA⟩
def foolscapref01_digit.f (a0 : Int) : Option (Bool) := if a0 ≥ 48 then (some (decide (a0 ≤ 57))) else (some false)
theorem foolscapref01_digit.calls (a0 : Int) (r : Bool) (w : World) (h : foolscapref01_digit.f a0 = some r) :
  Calls Tryz.prog 142 #[.int .u8 a0] w fun e w' => e = .returned (.bool r) ∧ Drawn0 w w' := by
 have H : (if a0 ≥ 48 then (some (decide (a0 ≤ 57))) else (some false)) = some r := h
 clear h
 by_cases c2 : a0 ≥ 48
 ·rw [if_pos c2] at H
  have c2b0 : decide (48 ≤ a0) = true := decide_eq_true c2
  clear c2
  obtain rfl := Option.some.inj H
  go_enter Tryz.func142, Tryz.ntmps142
  go_wp2
  go_ret
  exact ⟨rflS, drA⟩
 ·rw [if_neg c2] at H
  have c2b0 : decide (48 ≤ a0) = false := decide_eq_false c2
  clear c2
  obtain rfl := Option.some.inj H
  go_enter Tryz.func142, Tryz.ntmps142
  go_wp2
  go_ret
  exact ⟨rflS, drA⟩
end Go.Proofs.YtopdjokncbpghaaGreatDoor.Pr
end
