/-
  Lemmas for the law FAllFTable.
-/
import Derived.Test.YtopdjokncbpghaaGreatDoorSFAllFTable20
import Derived.Test.YtopdjokncbpghaaGreatDoorSFAllFTable7
import Derived.Test.YtopdjokncbpghaaGreatDoorSFAllFTable37
import Derived.Test.YtopdjokncbpghaaGreatDoorSFAllFTable23
import Derived.Lib.Strings
set_option maxHeartbeats 8000000
set_option maxRecDepth 100000
set_option linter.unusedVariables false
set_option linter.unusedSimpArgs false
section
namespace Go.Proofs.YtopdjokncbpghaaGreatDoor.Pr
open Go.RowKit Go.Proofs.YtopdjokncbpghaaGreatDoorW.PrintWords Go.Proofs.YtopdjokncbpghaaGreatDoorW.PrintLast Go.Proofs.YtopdjokncbpghaaGreatDoorW.PrintMore
theorem tree_cell_B (r k : Int) (p q : Bool) : tree_cell.f r k p q = some (placeB r k) := by
 unfold tree_cell.f
 obtain ⟨s, hs⟩ := place_Print_B r k p q
 rw [hs]
 cases placeB r k <;> rfl
theorem tree_line_r (s : ByteArray) : tree_line.f 2 s = some (rLN s) := by
 rw [← rLN_eq]
 unfold tree_line.f foolscapref08_Line.f
 simp only [tree_line.j0, tree_line.j1, foolscapref08_Line.j0, foolscapref08_Line.j1]
theorem value_Check_r (n : Nd) : value_Check.f n.f1.f0 n.f1.f1 n.f1.f2 n.f1.f3 n.f1.f4 = some (if rV n = true then 0 else 2) := by
 obtain ⟨f0, ⟨v0, v1, v2, v3, v4⟩, f2, f3, f4, l⟩ := n
 unfold rV value_Check.f foolscapref04_Right.f num_Fits.f foolscapref01_Fits.f
 simp only
 by_cases h0 : v0 = 0
 ·subst h0
  by_cases h1 : v1 = 0 <;> by_cases h2 : v2.toList = [] <;> by_cases h4 : v4 = 0 <;> cases v3 <;> simp [h1, h2, h4]
 by_cases h0 : v0 = 1
 ·subst h0
  by_cases g1 : v1 ≥ -1000000000000000000 <;> by_cases g2 : v1 ≤ 1000000000000000000 <;> by_cases h2 : v2.toList = [] <;> by_cases h4 : v4 = 0 <;> cases v3 <;> simp [g1, g2, h2, h4]
 by_cases h0 : v0 = 2
 ·subst h0
  by_cases g : (v2.size : Int) ≤ 255 <;> by_cases h1 : v1 = 0 <;> by_cases h4 : v4 = 0 <;> cases v3 <;> simp [g, h1, h4]
 by_cases h0 : v0 = 3
 ·subst h0
  by_cases h1 : v1 = 0 <;> by_cases h2 : v2.toList = [] <;> by_cases h4 : v4 = 0 <;> simp [h1, h2, h4]
 by_cases h0 : v0 = 4
 ·subst h0
  by_cases g1 : v4 ≥ 1 <;> by_cases g2 : v4 ≤ 7 <;> by_cases h1 : v1 = 0 <;> by_cases h2 : v2.toList = [] <;> cases v3 <;> simp [g1, g2, h1, h2] <;> omega
 ·simp [*]
def gI (x : Int) : Bool := decide ((65 ≤ x ∧ x ≤ 90) ∨ (97 ≤ x ∧ x ≤ 122) ∨ (48 ≤ x ∧ x ≤ 57) ∨ x = 46 ∨ x = 95)
def lI (x : Int) : Bool := decide ((65 ≤ x ∧ x ≤ 90) ∨ (97 ≤ x ∧ x ≤ 122))
theorem letter_eq (x : Int) : foolscapref07_letter.f x = some (lI x) := by
 unfold foolscapref07_letter.f lI
 by_cases h1 : x ≥ 65 <;> by_cases h2 : x ≤ 90 <;> by_cases h3 : x ≥ 97 <;> by_cases h4 : x ≤ 122 <;> simp [h1, h2, h3, h4] <;> omega
theorem digit_eq (x : Int) : foolscapref07_digit.f x = some (decide (48 ≤ x ∧ x ≤ 57)) := by
 unfold foolscapref07_digit.f
 by_cases h1 : x ≥ 48 <;> by_cases h2 : x ≤ 57 <;> simp [h1, h2] <;> omega
theorem step_name (x : Int) (R : Option Bool) : ((foolscapref07_letter.f x).bind fun t137 => (if t137 = true then R else ((foolscapref07_digit.f x).bind fun t138 => (if t138 = true then R else (if x = 46 then R else (if x = 95 then R else (some false))))))) = if gI x = true then R else some false := by
 rw [letter_eq, digit_eq]
 simp only [Option.bind_some]
 by_cases h1 : lI x = true
 ·rw [if_pos h1, if_pos]
  simp only [lI, gI, decide_eq_true_eq] at h1 ⊢
  omega
 ·rw [if_neg h1]
  by_cases h2 : 48 ≤ x ∧ x ≤ 57
  ·rw [if_pos (by simpa using h2), if_pos]
   simp only [gI, decide_eq_true_eq]
   omega
  ·rw [if_neg (by simpa using h2)]
   simp only [lI, decide_eq_true_eq] at h1
   by_cases h3 : x = 46
   ·rw [if_pos h3, if_pos]
    simp only [gI, decide_eq_true_eq]
    omega
   ·rw [if_neg h3]
    by_cases h4 : x = 95
    ·rw [if_pos h4, if_pos]
     simp only [gI, decide_eq_true_eq]
     omega
    ·rw [if_neg h4, if_neg]
     simp only [gI, decide_eq_true_eq]
     omega
theorem bt_nat (s : ByteArray) (i : Nat) (h : i < s.data.toList.length) : bt s (i : Int) = ((s.data.toList[i]).toNat : Int) := by
 have h2 : i < s.size := by rw [Array.length_toList] at h; exact h
 unfold bt
 rw [Int.toNat_natCast, dif_pos h2]
 rfl
theorem name_l0 (s : ByteArray) (hs : s.size ≤ 20) : ∀ (k i : Nat), i ≤ s.size → s.size < i + k → foolscapref07_Name.l0 k s (i : Int) = some ((s.data.toList.drop i).all fun b => gI (b.toNat : Int))
 | 0, i, hi, h => by exfalso; omega
 | k + 1, i, hi, h => by
  have hsz : s.data.toList.length = s.size := Array.length_toList
  rw [foolscapref07_Name.l0]
  by_cases h1 : i < s.size
  ·rw [if_pos (by omega), if_pos (by omega)]
   have hw : wrap64 ((i : Int) + 1) = ((i + 1 : Nat) : Int) := by unfold wrap64; omega
   have hd : s.data.toList.drop i = s.data.toList[i]'(by omega) :: s.data.toList.drop (i + 1) := List.drop_eq_getElem_cons (by omega)
   rw [hw, step_name, bt_nat s i (by omega), name_l0 s hs k (i + 1) (by omega) (by omega), hd, List.all_cons]
   cases gI ((s.data.toList[i]).toNat : Int) <;> simp
  ·rw [if_neg (by omega), List.drop_of_length_le (by omega)]
   rfl
theorem rNM_is (s : ByteArray) : rNM s = (decide (1 ≤ s.size ∧ s.size ≤ 20) && (lI (bt s 0) && s.data.toList.all fun b => gI (b.toNat : Int))) := by
 have h := rNM_eq s
 unfold foolscapref07_Name.f at h
 by_cases h1 : (s.size : Int) < 1
 ·rw [if_pos h1] at h
  have := Option.some.inj h
  rw [← this, decide_eq_false (by omega)]
  rfl
 ·rw [if_neg h1] at h
  by_cases h2 : (s.size : Int) > 20
  ·rw [if_pos h2] at h
   have := Option.some.inj h
   rw [← this, decide_eq_false (by omega)]
   rfl
  ·rw [if_neg h2, if_pos (by omega), letter_eq] at h
   simp only [Option.bind_some] at h
   rw [show (30 : Nat) = 29 + 1 from rfl, foolscapref07_Name.j0] at h
   rw [decide_eq_true (by omega)]
   cases hl : lI (bt s 0) with
   | false =>
    rw [hl] at h
    have := Option.some.inj h
    rw [← this]; rfl
   | true =>
    rw [hl] at h
    have e := name_l0 s (by omega) 29 0 (by omega) (by omega)
    simp only [Bool.not_true, Bool.false_eq_true, if_false] at h
    have := (show foolscapref07_Name.l0 29 s 0 = _ from e).symm.trans h
    rw [List.drop_zero] at this
    have := Option.some.inj this
    rw [← this]; rfl
theorem drop_all {α : Type} (p : α → Bool) : ∀ l : List α, (l.dropWhile p).all p = l.all p
 | [] => rfl
 | x :: r => by
  cases h : p x with
  | true => rw [List.dropWhile_cons_of_pos h, drop_all p r, List.all_cons, h]; simp
  | false => rw [List.dropWhile_cons_of_neg (by simp [h])]
theorem dropWhile_nil {α : Type} (p : α → Bool) : ∀ l : List α, (l.dropWhile p).isEmpty = l.all p
 | [] => rfl
 | x :: r => by
  cases h : p x with
  | true => rw [List.dropWhile_cons_of_pos h, dropWhile_nil p r, List.all_cons, h]; simp
  | false => rw [List.dropWhile_cons_of_neg (by simp [h]), List.all_cons, h]; rfl
theorem trim_empty (l cs : List UInt8) : (Lib.trimS l cs).isEmpty = l.all (cs.contains ·) := by
 unfold Lib.trimS Lib.trimLeftS Lib.trimRightS
 rw [dropWhile_nil, List.all_reverse, drop_all, List.all_reverse]
def nameCs : List UInt8 := [65, 66, 67, 68, 69, 70, 71, 72, 73, 74, 75, 76, 77, 78, 79, 80, 81, 82, 83, 84, 85, 86, 87, 88, 89, 90, 48, 49, 50, 51, 52, 53, 54, 55, 56, 57, 46, 95]
theorem nameCs_is : ∀ b : UInt8, nameCs.contains b = (gI (b.toNat : Int) && (up b == b)) := by
 have h : ∀ n : Fin 256, nameCs.contains (UInt8.ofNat n.val) = (gI ((UInt8.ofNat n.val).toNat : Int) && (up (UInt8.ofNat n.val) == UInt8.ofNat n.val)) := by decide +kernel
 intro b
 have := h ⟨b.toNat, b.toNat_lt⟩
 rwa [UInt8.ofNat_toNat] at this
theorem up_upper : ∀ b : UInt8, up b = b → lI (b.toNat : Int) = decide (65 ≤ b.toNat ∧ b.toNat ≤ 90) := by
 have h : ∀ n : Fin 256, up (UInt8.ofNat n.val) = (UInt8.ofNat n.val) → lI ((UInt8.ofNat n.val).toNat : Int) = decide (65 ≤ (UInt8.ofNat n.val).toNat ∧ (UInt8.ofNat n.val).toNat ≤ 90) := by decide +kernel
 intro b
 have := h ⟨b.toNat, b.toNat_lt⟩
 rwa [UInt8.ofNat_toNat] at this
theorem map_fix (f : UInt8 → UInt8) : ∀ l : List UInt8, (l.map f == l) = l.all fun b => f b == b
 | [] => rfl
 | x :: r => by rw [List.map_cons, List.all_cons, ← map_fix f r]; rfl
theorem tree_name_r (s : ByteArray) : tree_name.f s = some (rNM s && ((foldB s).toList == s.toList)) := by
 have hsz : s.data.toList.length = s.size := Array.length_toList
 have hf : ((foldB s).toList == s.toList) = (s.data.toList.map up == s.data.toList) := by
  rw [Lib.toList_data, Lib.toList_data]
  rfl
 rw [rNM_is, hf, map_fix]
 unfold tree_name.f
 by_cases h1 : s.toList = []
 ·rw [if_pos h1]
  have : s.size = 0 := by rw [Lib.toList_data] at h1; rw [← hsz, h1]; rfl
  rw [decide_eq_false (by omega)]
  rfl
 ·rw [if_neg h1]
  have h0 : 0 < s.size := by
   rw [Lib.toList_data] at h1
   rw [← hsz]
   exact List.length_pos_iff.mpr h1
  by_cases h2 : (s.size : Int) > 20
  ·rw [if_pos h2, decide_eq_false (by omega)]
   rfl
  ·rw [if_neg h2, if_pos (by omega), decide_eq_true (by omega)]
   have ht : ((strings_Trim.f s (⟨#[65, 66, 67, 68, 69, 70, 71, 72, 73, 74, 75, 76, 77, 78, 79, 80, 81, 82, 83, 84, 85, 86, 87, 88, 89, 90, 48, 49, 50, 51, 52, 53, 54, 55, 56, 57, 46, 95]⟩ : ByteArray)).bind fun t113 => (some (t113.toList == ([] : List UInt8)))) = some (s.data.toList.all fun b => gI (b.toNat : Int) && (up b == b)) := by
    unfold strings_Trim.f
    rw [if_pos ⟨by decide, by decide, by omega⟩]
    simp only [Option.bind_some]
    rw [Lib.toList_data]
    have e := trim_empty s.data.toList nameCs
    have e2 : s.data.toList.all (nameCs.contains ·) = s.data.toList.all fun b => gI (b.toNat : Int) && (up b == b) := by
     congr 1
     funext b
     exact nameCs_is b
    rw [← e2, ← e]
    show some ((Lib.trimS s.data.toList nameCs) == []) = _
    cases Lib.trimS s.data.toList nameCs <;> rfl
   rw [ht]
   have hb := bt_nat s 0 (by omega)
   rw [Int.natCast_zero] at hb
   rw [hb]
   have hand : (s.data.toList.all fun b => gI (b.toNat : Int) && (up b == b)) = ((s.data.toList.all fun b => gI (b.toNat : Int)) && s.data.toList.all fun b => up b == b) := by
    generalize s.data.toList = l
    induction l with
    | nil => rfl
    | cons x r ih => simp only [List.all_cons, ih]; cases gI (x.toNat : Int) <;> cases (up x == x) <;> simp
   rw [hand]
   cases hu : s.data.toList.all fun b => up b == b with
   | false =>
    rw [Bool.and_false, Bool.and_false]
    split
    ·rfl
    ·split <;> rfl
   | true =>
    have hx : up (s.data.toList[0]'(by omega)) = s.data.toList[0]'(by omega) := by
     have := List.all_eq_true.mp hu _ (List.getElem_mem (show 0 < s.data.toList.length by omega))
     simpa using this
    rw [up_upper _ hx]
    by_cases g1 : ((s.data.toList[0]'(by omega)).toNat : Int) < 65
    ·rw [if_pos g1, decide_eq_false (by omega)]
     rfl
    ·rw [if_neg g1]
     by_cases g2 : ((s.data.toList[0]'(by omega)).toNat : Int) > 90
     ·rw [if_pos g2, decide_eq_false (by omega)]
      rfl
     ·rw [if_neg g2, decide_eq_true (by omega)]
      simp
theorem kindB_same (n : Nd) : kindB rV rLN (fun s => rNM s && ((foldB s).toList == s.toList)) id n = kindB rV rLN rNM foldB n := by
 unfold kindB
 simp
theorem treeRight_is (n : Nd) (A : Option Addr) (c : Nat) (w : World) (hK : KidsC w A c n.f5) (hL0 : Aside0 (LaidW w)) : Calls Tryz.prog 54 #[nodeV n A c] w fun e w' => e = .returned (.bool (rightS n)) ∧ Below w.heap.size w w' := by
 have h := treeRight_calls rV rLN (fun s => rNM s && ((foldB s).toList == s.toList)) 2 value_Check_r tree_line_r tree_name_r tree_cell_B (szN n + 1) n A c w (Nat.lt_succ_self _) hK hL0
 have e : (fun n => plainB n && kindB rV rLN (fun s => rNM s && ((foldB s).toList == s.toList)) id n) = (fun n => plainB n && kindB rV rLN rNM foldB n) := by
  funext n
  rw [kindB_same]
 rw [e] at h
 exact h
theorem treeCheck_calls (n : Nd) (A : Option Addr) (c : Nat) (w : World) (hK : KidsC w A c n.f5) (hL0 : Aside0 (LaidW w)) :
  Calls Tryz.prog 34 #[nodeV n A c] w fun e w' => e = .returned (.int .i64 (checkI n)) ∧ Below w.heap.size w w' := by
 have HC := Aside0.mk fun (W : World) (h : Below w.heap.size w W) => measure_calls n A c 4096 160 W (hK.below h) (by omega) (by omega) (by omega) (by omega)
 have HR := Aside0.mk fun (W : World) (h : Below w.heap.size w W) => treeRight_is n A c W (hK.below h) (LaidAt hL0 h)
 clear hK
 have HD := Aside0.mk (show checkI n = if levelsS n 160 > 160 then 6 else if nodesS n 4096 > 4096 then 7 else if rightS n = false then 2 else if levelsS n 160 > 40 then 6 else 0 from rfl)
 generalize checkI n = r at HD ⊢
 generalize nodesS n 4096 = p at HC HD
 generalize levelsS n 160 = q at HC HD
 generalize rightS n = t at HR HD
 go_enter Tryz.func34, Tryz.ntmps34
 go_wp2_with (first
  | (go_at_call 53; (with_reducible refine (HC.out _ (bel1 _ _)).mono ?_); rintro e w1 ⟨rfl, hb⟩; have HB1 := Aside0.mk (below_step (bel1 _ _) hb); have hbk := blk_below (newBlk w (.cells (nodeA n A c) 44)) hb; have hcl := fun i => blk_cell hbk i; clear hb)
  | (go_at_call 54; (with_reducible refine (HR.out _ HB1.out).mono ?_); rintro e w2 ⟨rfl, hb⟩; have HB2 := Aside0.mk hb; clear hb))
 all_goals (go_ret; exact ⟨ret_i (by rw [HD.out]; repeat' split <;> simp_all <;> omega), by first | exact HB1.out | exact below_step HB1.out HB2.out⟩)
end Go.Proofs.YtopdjokncbpghaaGreatDoor.Pr
end
