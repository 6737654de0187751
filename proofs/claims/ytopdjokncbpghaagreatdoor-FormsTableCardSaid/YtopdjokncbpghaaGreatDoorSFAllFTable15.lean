/-
  Lemmas for the law FAllFTable.
-/
import Derived.Test.YtopdjokncbpghaaGreatDoorSFAllFTable9
import Derived.Test.YtopdjokncbpghaaGreatDoorSFAllFTable12
import Derived.Test.YtopdjokncbpghaaGreatDoorSFAllFTable13
import Derived.Test.YtopdjokncbpghaaGreatDoorSFAllFTable7
import Derived.Test.YtopdjokncbpghaaGreatDoorSFAllFTable14
import Derived.Test.YtopdjokncbpghaaGreatDoorSFAllFTable5
set_option maxHeartbeats 8000000
set_option maxRecDepth 100000
set_option linter.unusedVariables false
set_option linter.unusedSimpArgs false
section
namespace Go.Proofs.YtopdjokncbpghaaGreatDoor.Pr
open Go.RowKit Go.Proofs.YtopdjokncbpghaaGreatDoorW.PrintWords Go.Proofs.YtopdjokncbpghaaGreatDoorW.PrintLast Go.Proofs.YtopdjokncbpghaaGreatDoorW.PrintMore
def foolscapref07_one.f (k : Nat) (a0 : ByteArray) (a1 : Int) : Option (Int × Int × Int × ByteArray × Bool × Int × Int × Int × Bool × Bool × ByteArray × Int × Int × Int) :=
 if 0 ≤ a1 ∧ a1 < (a0.size : Int) then (foolscapref07_digit.f (bt a0 a1)).bind fun t => if t = true then foolscapref07_number.f k a0 a1 else if bt a0 a1 = 34 then foolscapref07_text.f k a0 a1 else if bt a0 a1 = 35 then foolscapref07_fault.f k a0 a1 else (foolscapref07_letter.f (bt a0 a1)).bind fun u => if u = true ∨ bt a0 a1 = 36 then foolscapref07_word.f k a0 a1 else foolscapref07_sign.f k a0 a1 else none
theorem one_number (k : Nat) (a0 : ByteArray) (a1 : Int) (r1 : Int) (r2 : Int) (r3 : Int) (r4 : ByteArray) (r5 : Bool) (r6 : Int) (r7 : Int) (r8 : Int) (r9 : Bool) (r10 : Bool) (r11 : ByteArray) (r12 : Int) (r13 : Int) (r14 : Int) (w : World) (h0 : 0 ≤ a1) (h1 : a1 < (a0.size : Int)) (hd : foolscapref07_digit.f (bt a0 a1) = some true) (h : foolscapref07_number.f k a0 a1 = some (r1, r2, r3, r4, r5, r6, r7, r8, r9, r10, r11, r12, r13, r14)) :
  Calls Tryz.prog 92 #[.string a0, .int .i64 a1] w fun e w' => e = .returned (.tuple #[.agg #[.int .i64 r1, .int .i64 r2, .int .i64 r3, .string r4, .bool r5, .int .i64 r6, .int .i64 r7, .int .i64 r8, .bool r9, .bool r10, .string r11, .int .i64 r12], .int .i64 r13, .int .i64 r14]) ∧ Below w.heap.size w w' := by
 have H := Aside0.mk h
 clear h
 have HD := Aside0.mk hd
 clear hd
 have hbt := bt_at a0 a1
 go_enter Tryz.func92, Tryz.ntmps92
 go_wp2_with (first
  | (go_at_call 101; (with_reducible refine (foolscapref07_digit.calls _ _ _ HD.out).mono ?_); rintro e w1 ⟨rfl, nd, rfl⟩)
  | (go_at_call 112; (with_reducible refine (foolscapref07_number.calls k a0 a1 _ _ _ _ _ _ _ _ _ _ _ _ _ _ _ H.out).mono ?_); rintro e w1 ⟨rfl, hb⟩; have hg := blk_below (bqZ (newBlk w (.cells #[.int .i64 0, .int .i64 0, .int .i64 0, .string (⟨#[]⟩ : ByteArray), .bool false, .int .i64 0, .int .i64 0, .int .i64 0, .bool false, .bool false, .string (⟨#[]⟩ : ByteArray), .int .i64 0] 120)) _) hb; have HB := Aside0.mk (below_step (bqN (bel1 w _) _) hb); have HG := Aside0.mk hg; clear hb hg)
  | ((with_reducible refine gate_store (t := 120) (p := 4) (v := .tmp 17) rfl ?_); refine wpRowSt rfl 120 (.tmp 4) (.tmp 17) rfl w.heap.size #[.int .i64 r1, .int .i64 r2, .int .i64 r3, .string r4, .bool r5, .int .i64 r6, .int .i64 r7, .int .i64 r8, .bool r9, .bool r10, .string r11, .int .i64 r12] rfl rfl 120 _ HG.out (by kernel_rfl) rfl rfl ?_))
 refine bodyPost_ret (results_ctt rfl _ _ w.heap.size 120 #[.int .i64 r1, .int .i64 r2, .int .i64 r3, .string r4, .bool r5, .int .i64 r6, .int .i64 r7, .int .i64 r8, .bool r9, .bool r10, .string r11, .int .i64 r12] (0, 0) _ rfl (setRow_heap _ _ _ _ _ _ HG.out) Tryz.underlying120 rfl (by kernel_rfl)) rfl ?_
 exact ⟨rfl, rowBelow HB.out (Nat.le_refl _) _⟩
theorem one_text (k : Nat) (a0 : ByteArray) (a1 : Int) (r1 : Int) (r2 : Int) (r3 : Int) (r4 : ByteArray) (r5 : Bool) (r6 : Int) (r7 : Int) (r8 : Int) (r9 : Bool) (r10 : Bool) (r11 : ByteArray) (r12 : Int) (r13 : Int) (r14 : Int) (w : World) (h0 : 0 ≤ a1) (h1 : a1 < (a0.size : Int)) (hd : foolscapref07_digit.f (bt a0 a1) = some false) (hn34 : bt a0 a1 = 34) (h : foolscapref07_text.f k a0 a1 = some (r1, r2, r3, r4, r5, r6, r7, r8, r9, r10, r11, r12, r13, r14)) :
  Calls Tryz.prog 92 #[.string a0, .int .i64 a1] w fun e w' => e = .returned (.tuple #[.agg #[.int .i64 r1, .int .i64 r2, .int .i64 r3, .string r4, .bool r5, .int .i64 r6, .int .i64 r7, .int .i64 r8, .bool r9, .bool r10, .string r11, .int .i64 r12], .int .i64 r13, .int .i64 r14]) ∧ Below w.heap.size w w' := by
 have H := Aside0.mk h
 clear h
 have HD := Aside0.mk hd
 clear hd
 have hc34 : (bt a0 a1 == 34) = true := beq_iff_eq.mpr hn34
 clear hn34
 have hbt := bt_at a0 a1
 go_enter Tryz.func92, Tryz.ntmps92
 go_wp2_with (first
  | (go_at_call 101; (with_reducible refine (foolscapref07_digit.calls _ _ _ HD.out).mono ?_); rintro e w1 ⟨rfl, nd, rfl⟩)
  | (go_at_call 113; (with_reducible refine (foolscapref07_text.calls k a0 a1 _ _ _ _ _ _ _ _ _ _ _ _ _ _ _ H.out).mono ?_); rintro e w1 ⟨rfl, hb⟩; have hg := blk_below (bqZ (newBlk w (.cells #[.int .i64 0, .int .i64 0, .int .i64 0, .string (⟨#[]⟩ : ByteArray), .bool false, .int .i64 0, .int .i64 0, .int .i64 0, .bool false, .bool false, .string (⟨#[]⟩ : ByteArray), .int .i64 0] 120)) _) hb; have HB := Aside0.mk (below_step (bqN (bel1 w _) _) hb); have HG := Aside0.mk hg; clear hb hg)
  | ((with_reducible refine gate_store (t := 120) (p := 4) (v := .tmp 26) rfl ?_); refine wpRowSt rfl 120 (.tmp 4) (.tmp 26) rfl w.heap.size #[.int .i64 r1, .int .i64 r2, .int .i64 r3, .string r4, .bool r5, .int .i64 r6, .int .i64 r7, .int .i64 r8, .bool r9, .bool r10, .string r11, .int .i64 r12] rfl rfl 120 _ HG.out (by kernel_rfl) rfl rfl ?_))
 refine bodyPost_ret (results_ctt rfl _ _ w.heap.size 120 #[.int .i64 r1, .int .i64 r2, .int .i64 r3, .string r4, .bool r5, .int .i64 r6, .int .i64 r7, .int .i64 r8, .bool r9, .bool r10, .string r11, .int .i64 r12] (0, 0) _ rfl (setRow_heap _ _ _ _ _ _ HG.out) Tryz.underlying120 rfl (by kernel_rfl)) rfl ?_
 exact ⟨rfl, rowBelow HB.out (Nat.le_refl _) _⟩
theorem one_fault (k : Nat) (a0 : ByteArray) (a1 : Int) (r1 : Int) (r2 : Int) (r3 : Int) (r4 : ByteArray) (r5 : Bool) (r6 : Int) (r7 : Int) (r8 : Int) (r9 : Bool) (r10 : Bool) (r11 : ByteArray) (r12 : Int) (r13 : Int) (r14 : Int) (w : World) (h0 : 0 ≤ a1) (h1 : a1 < (a0.size : Int)) (hd : foolscapref07_digit.f (bt a0 a1) = some false) (hn34 : bt a0 a1 ≠ 34) (hn35 : bt a0 a1 = 35) (h : foolscapref07_fault.f k a0 a1 = some (r1, r2, r3, r4, r5, r6, r7, r8, r9, r10, r11, r12, r13, r14)) :
  Calls Tryz.prog 92 #[.string a0, .int .i64 a1] w fun e w' => e = .returned (.tuple #[.agg #[.int .i64 r1, .int .i64 r2, .int .i64 r3, .string r4, .bool r5, .int .i64 r6, .int .i64 r7, .int .i64 r8, .bool r9, .bool r10, .string r11, .int .i64 r12], .int .i64 r13, .int .i64 r14]) ∧ Below w.heap.size w w' := by
 have H := Aside0.mk h
 clear h
 have HD := Aside0.mk hd
 clear hd
 have hc34 : (bt a0 a1 == 34) = false := beq_eq_false_iff_ne.mpr hn34
 have hc35 : (bt a0 a1 == 35) = true := beq_iff_eq.mpr hn35
 clear hn34 hn35
 have hbt := bt_at a0 a1
 go_enter Tryz.func92, Tryz.ntmps92
 go_wp2_with (first
  | (go_at_call 101; (with_reducible refine (foolscapref07_digit.calls _ _ _ HD.out).mono ?_); rintro e w1 ⟨rfl, nd, rfl⟩)
  | (go_at_call 114; (with_reducible refine (foolscapref07_fault.calls k a0 a1 _ _ _ _ _ _ _ _ _ _ _ _ _ _ _ H.out).mono ?_); rintro e w1 ⟨rfl, hb⟩; have hg := blk_below (bqZ (newBlk w (.cells #[.int .i64 0, .int .i64 0, .int .i64 0, .string (⟨#[]⟩ : ByteArray), .bool false, .int .i64 0, .int .i64 0, .int .i64 0, .bool false, .bool false, .string (⟨#[]⟩ : ByteArray), .int .i64 0] 120)) _) hb; have HB := Aside0.mk (below_step (bqN (bel1 w _) _) hb); have HG := Aside0.mk hg; clear hb hg)
  | ((with_reducible refine gate_store (t := 120) (p := 4) (v := .tmp 35) rfl ?_); refine wpRowSt rfl 120 (.tmp 4) (.tmp 35) rfl w.heap.size #[.int .i64 r1, .int .i64 r2, .int .i64 r3, .string r4, .bool r5, .int .i64 r6, .int .i64 r7, .int .i64 r8, .bool r9, .bool r10, .string r11, .int .i64 r12] rfl rfl 120 _ HG.out (by kernel_rfl) rfl rfl ?_))
 refine bodyPost_ret (results_ctt rfl _ _ w.heap.size 120 #[.int .i64 r1, .int .i64 r2, .int .i64 r3, .string r4, .bool r5, .int .i64 r6, .int .i64 r7, .int .i64 r8, .bool r9, .bool r10, .string r11, .int .i64 r12] (0, 0) _ rfl (setRow_heap _ _ _ _ _ _ HG.out) Tryz.underlying120 rfl (by kernel_rfl)) rfl ?_
 exact ⟨rfl, rowBelow HB.out (Nat.le_refl _) _⟩
theorem one_word (k : Nat) (a0 : ByteArray) (a1 : Int) (r1 : Int) (r2 : Int) (r3 : Int) (r4 : ByteArray) (r5 : Bool) (r6 : Int) (r7 : Int) (r8 : Int) (r9 : Bool) (r10 : Bool) (r11 : ByteArray) (r12 : Int) (r13 : Int) (r14 : Int) (w : World) (h0 : 0 ≤ a1) (h1 : a1 < (a0.size : Int)) (hd : foolscapref07_digit.f (bt a0 a1) = some false) (hn34 : bt a0 a1 ≠ 34) (hn35 : bt a0 a1 ≠ 35) (hl : foolscapref07_letter.f (bt a0 a1) = some true) (h : foolscapref07_word.f k a0 a1 = some (r1, r2, r3, r4, r5, r6, r7, r8, r9, r10, r11, r12, r13, r14)) :
  Calls Tryz.prog 92 #[.string a0, .int .i64 a1] w fun e w' => e = .returned (.tuple #[.agg #[.int .i64 r1, .int .i64 r2, .int .i64 r3, .string r4, .bool r5, .int .i64 r6, .int .i64 r7, .int .i64 r8, .bool r9, .bool r10, .string r11, .int .i64 r12], .int .i64 r13, .int .i64 r14]) ∧ Below w.heap.size w w' := by
 have H := Aside0.mk h
 clear h
 have HD := Aside0.mk hd
 clear hd
 have hc34 : (bt a0 a1 == 34) = false := beq_eq_false_iff_ne.mpr hn34
 have hc35 : (bt a0 a1 == 35) = false := beq_eq_false_iff_ne.mpr hn35
 clear hn34 hn35
 have HLe := Aside0.mk hl
 clear hl
 have hbt := bt_at a0 a1
 go_enter Tryz.func92, Tryz.ntmps92
 go_wp2_with (first
  | (go_at_call 101; (with_reducible refine (foolscapref07_digit.calls _ _ _ HD.out).mono ?_); rintro e w1 ⟨rfl, nd, rfl⟩)
  | (go_at_call 100; (with_reducible refine (foolscapref07_letter.calls _ _ _ HLe.out).mono ?_); rintro e w1 ⟨rfl, nd2, rfl⟩)
  | (go_at_call 115; (with_reducible refine (foolscapref07_word.calls k a0 a1 _ _ _ _ _ _ _ _ _ _ _ _ _ _ _ H.out).mono ?_); rintro e w1 ⟨rfl, hb⟩; have hg := blk_below (bqZ (newBlk w (.cells #[.int .i64 0, .int .i64 0, .int .i64 0, .string (⟨#[]⟩ : ByteArray), .bool false, .int .i64 0, .int .i64 0, .int .i64 0, .bool false, .bool false, .string (⟨#[]⟩ : ByteArray), .int .i64 0] 120)) _) hb; have HB := Aside0.mk (below_step (bqN (bel1 w _) _) hb); have HG := Aside0.mk hg; clear hb hg)
  | ((with_reducible refine gate_store (t := 120) (p := 4) (v := .tmp 48) rfl ?_); refine wpRowSt rfl 120 (.tmp 4) (.tmp 48) rfl w.heap.size #[.int .i64 r1, .int .i64 r2, .int .i64 r3, .string r4, .bool r5, .int .i64 r6, .int .i64 r7, .int .i64 r8, .bool r9, .bool r10, .string r11, .int .i64 r12] rfl rfl 120 _ HG.out (by kernel_rfl) rfl rfl ?_))
 refine bodyPost_ret (results_ctt rfl _ _ w.heap.size 120 #[.int .i64 r1, .int .i64 r2, .int .i64 r3, .string r4, .bool r5, .int .i64 r6, .int .i64 r7, .int .i64 r8, .bool r9, .bool r10, .string r11, .int .i64 r12] (0, 0) _ rfl (setRow_heap _ _ _ _ _ _ HG.out) Tryz.underlying120 rfl (by kernel_rfl)) rfl ?_
 exact ⟨rfl, rowBelow HB.out (Nat.le_refl _) _⟩
theorem one_word2 (k : Nat) (a0 : ByteArray) (a1 : Int) (r1 : Int) (r2 : Int) (r3 : Int) (r4 : ByteArray) (r5 : Bool) (r6 : Int) (r7 : Int) (r8 : Int) (r9 : Bool) (r10 : Bool) (r11 : ByteArray) (r12 : Int) (r13 : Int) (r14 : Int) (w : World) (h0 : 0 ≤ a1) (h1 : a1 < (a0.size : Int)) (hd : foolscapref07_digit.f (bt a0 a1) = some false) (hn34 : bt a0 a1 ≠ 34) (hn35 : bt a0 a1 ≠ 35) (hl : foolscapref07_letter.f (bt a0 a1) = some false) (hn36 : bt a0 a1 = 36) (h : foolscapref07_word.f k a0 a1 = some (r1, r2, r3, r4, r5, r6, r7, r8, r9, r10, r11, r12, r13, r14)) :
  Calls Tryz.prog 92 #[.string a0, .int .i64 a1] w fun e w' => e = .returned (.tuple #[.agg #[.int .i64 r1, .int .i64 r2, .int .i64 r3, .string r4, .bool r5, .int .i64 r6, .int .i64 r7, .int .i64 r8, .bool r9, .bool r10, .string r11, .int .i64 r12], .int .i64 r13, .int .i64 r14]) ∧ Below w.heap.size w w' := by
 have H := Aside0.mk h
 clear h
 have HD := Aside0.mk hd
 clear hd
 have hc34 : (bt a0 a1 == 34) = false := beq_eq_false_iff_ne.mpr hn34
 have hc35 : (bt a0 a1 == 35) = false := beq_eq_false_iff_ne.mpr hn35
 clear hn34 hn35
 have HLe := Aside0.mk hl
 clear hl
 have hc36 : (bt a0 a1 == 36) = true := beq_iff_eq.mpr hn36
 clear hn36
 have hbt := bt_at a0 a1
 go_enter Tryz.func92, Tryz.ntmps92
 go_wp2_with (first
  | (go_at_call 101; (with_reducible refine (foolscapref07_digit.calls _ _ _ HD.out).mono ?_); rintro e w1 ⟨rfl, nd, rfl⟩)
  | (go_at_call 100; (with_reducible refine (foolscapref07_letter.calls _ _ _ HLe.out).mono ?_); rintro e w1 ⟨rfl, nd2, rfl⟩)
  | (go_at_call 115; (with_reducible refine (foolscapref07_word.calls k a0 a1 _ _ _ _ _ _ _ _ _ _ _ _ _ _ _ H.out).mono ?_); rintro e w1 ⟨rfl, hb⟩; have hg := blk_below (bqZ (newBlk w (.cells #[.int .i64 0, .int .i64 0, .int .i64 0, .string (⟨#[]⟩ : ByteArray), .bool false, .int .i64 0, .int .i64 0, .int .i64 0, .bool false, .bool false, .string (⟨#[]⟩ : ByteArray), .int .i64 0] 120)) _) hb; have HB := Aside0.mk (below_step (bqN (bel1 w _) _) hb); have HG := Aside0.mk hg; clear hb hg)
  | ((with_reducible refine gate_store (t := 120) (p := 4) (v := .tmp 48) rfl ?_); refine wpRowSt rfl 120 (.tmp 4) (.tmp 48) rfl w.heap.size #[.int .i64 r1, .int .i64 r2, .int .i64 r3, .string r4, .bool r5, .int .i64 r6, .int .i64 r7, .int .i64 r8, .bool r9, .bool r10, .string r11, .int .i64 r12] rfl rfl 120 _ HG.out (by kernel_rfl) rfl rfl ?_))
 refine bodyPost_ret (results_ctt rfl _ _ w.heap.size 120 #[.int .i64 r1, .int .i64 r2, .int .i64 r3, .string r4, .bool r5, .int .i64 r6, .int .i64 r7, .int .i64 r8, .bool r9, .bool r10, .string r11, .int .i64 r12] (0, 0) _ rfl (setRow_heap _ _ _ _ _ _ HG.out) Tryz.underlying120 rfl (by kernel_rfl)) rfl ?_
 exact ⟨rfl, rowBelow HB.out (Nat.le_refl _) _⟩
theorem one_sign (k : Nat) (a0 : ByteArray) (a1 : Int) (r1 : Int) (r2 : Int) (r3 : Int) (r4 : ByteArray) (r5 : Bool) (r6 : Int) (r7 : Int) (r8 : Int) (r9 : Bool) (r10 : Bool) (r11 : ByteArray) (r12 : Int) (r13 : Int) (r14 : Int) (w : World) (h0 : 0 ≤ a1) (h1 : a1 < (a0.size : Int)) (hd : foolscapref07_digit.f (bt a0 a1) = some false) (hn34 : bt a0 a1 ≠ 34) (hn35 : bt a0 a1 ≠ 35) (hl : foolscapref07_letter.f (bt a0 a1) = some false) (hn36 : bt a0 a1 ≠ 36) (h : foolscapref07_sign.f k a0 a1 = some (r1, r2, r3, r4, r5, r6, r7, r8, r9, r10, r11, r12, r13, r14)) :
  Calls Tryz.prog 92 #[.string a0, .int .i64 a1] w fun e w' => e = .returned (.tuple #[.agg #[.int .i64 r1, .int .i64 r2, .int .i64 r3, .string r4, .bool r5, .int .i64 r6, .int .i64 r7, .int .i64 r8, .bool r9, .bool r10, .string r11, .int .i64 r12], .int .i64 r13, .int .i64 r14]) ∧ Below w.heap.size w w' := by
 have H := Aside0.mk h
 clear h
 have HD := Aside0.mk hd
 clear hd
 have hc34 : (bt a0 a1 == 34) = false := beq_eq_false_iff_ne.mpr hn34
 have hc35 : (bt a0 a1 == 35) = false := beq_eq_false_iff_ne.mpr hn35
 clear hn34 hn35
 have HLe := Aside0.mk hl
 clear hl
 have hc36 : (bt a0 a1 == 36) = false := beq_eq_false_iff_ne.mpr hn36
 clear hn36
 have hbt := bt_at a0 a1
 go_enter Tryz.func92, Tryz.ntmps92
 go_wp2_with (first
  | (go_at_call 101; (with_reducible refine (foolscapref07_digit.calls _ _ _ HD.out).mono ?_); rintro e w1 ⟨rfl, nd, rfl⟩)
  | (go_at_call 100; (with_reducible refine (foolscapref07_letter.calls _ _ _ HLe.out).mono ?_); rintro e w1 ⟨rfl, nd2, rfl⟩)
  | (go_at_call 116; (with_reducible refine (foolscapref07_sign.calls k a0 a1 _ _ _ _ _ _ _ _ _ _ _ _ _ _ _ H.out).mono ?_); rintro e w1 ⟨rfl, hb⟩; have hg := blk_below (bqZ (newBlk w (.cells #[.int .i64 0, .int .i64 0, .int .i64 0, .string (⟨#[]⟩ : ByteArray), .bool false, .int .i64 0, .int .i64 0, .int .i64 0, .bool false, .bool false, .string (⟨#[]⟩ : ByteArray), .int .i64 0] 120)) _) hb; have HB := Aside0.mk (below_step (bqN (bel1 w _) _) hb); have HG := Aside0.mk hg; clear hb hg)
  | ((with_reducible refine gate_store (t := 120) (p := 4) (v := .tmp 54) rfl ?_); refine wpRowSt rfl 120 (.tmp 4) (.tmp 54) rfl w.heap.size #[.int .i64 r1, .int .i64 r2, .int .i64 r3, .string r4, .bool r5, .int .i64 r6, .int .i64 r7, .int .i64 r8, .bool r9, .bool r10, .string r11, .int .i64 r12] rfl rfl 120 _ HG.out (by kernel_rfl) rfl rfl ?_))
 refine bodyPost_ret (results_ctt rfl _ _ w.heap.size 120 #[.int .i64 r1, .int .i64 r2, .int .i64 r3, .string r4, .bool r5, .int .i64 r6, .int .i64 r7, .int .i64 r8, .bool r9, .bool r10, .string r11, .int .i64 r12] (0, 0) _ rfl (setRow_heap _ _ _ _ _ _ HG.out) Tryz.underlying120 rfl (by kernel_rfl)) rfl ?_
 exact ⟨rfl, rowBelow HB.out (Nat.le_refl _) _⟩
theorem foolscapref07_one.calls (k : Nat) (a0 : ByteArray) (a1 : Int) (r1 : Int) (r2 : Int) (r3 : Int) (r4 : ByteArray) (r5 : Bool) (r6 : Int) (r7 : Int) (r8 : Int) (r9 : Bool) (r10 : Bool) (r11 : ByteArray) (r12 : Int) (r13 : Int) (r14 : Int) (w : World) (h : foolscapref07_one.f k a0 a1 = some (r1, r2, r3, r4, r5, r6, r7, r8, r9, r10, r11, r12, r13, r14)) :
  Calls Tryz.prog 92 #[.string a0, .int .i64 a1] w fun e w' => e = .returned (.tuple #[.agg #[.int .i64 r1, .int .i64 r2, .int .i64 r3, .string r4, .bool r5, .int .i64 r6, .int .i64 r7, .int .i64 r8, .bool r9, .bool r10, .string r11, .int .i64 r12], .int .i64 r13, .int .i64 r14]) ∧ Below w.heap.size w w' := by
 unfold foolscapref07_one.f at h
 split at h
 ·rename_i hi
  obtain ⟨t, hd, h⟩ := Option.bind_eq_some_iff.mp h
  cases t with
  | true => exact one_number k a0 a1 _ _ _ _ _ _ _ _ _ _ _ _ _ _ w hi.1 hi.2 hd h
  | false =>
   rw [if_neg (by decide)] at h
   by_cases h34 : bt a0 a1 = 34
   ·rw [if_pos h34] at h; exact one_text k a0 a1 _ _ _ _ _ _ _ _ _ _ _ _ _ _ w hi.1 hi.2 hd h34 h
   rw [if_neg h34] at h
   by_cases h35 : bt a0 a1 = 35
   ·rw [if_pos h35] at h; exact one_fault k a0 a1 _ _ _ _ _ _ _ _ _ _ _ _ _ _ w hi.1 hi.2 hd h34 h35 h
   rw [if_neg h35] at h
   obtain ⟨u, hl, h⟩ := Option.bind_eq_some_iff.mp h
   cases u with
   | true => rw [if_pos (Or.inl rfl)] at h; exact one_word k a0 a1 _ _ _ _ _ _ _ _ _ _ _ _ _ _ w hi.1 hi.2 hd h34 h35 hl h
   | false =>
    by_cases h36 : bt a0 a1 = 36
    ·rw [if_pos (Or.inr h36)] at h; exact one_word2 k a0 a1 _ _ _ _ _ _ _ _ _ _ _ _ _ _ w hi.1 hi.2 hd h34 h35 hl h36 h
    ·rw [if_neg (fun q => q.elim (fun q => by cases q) h36)] at h; exact one_sign k a0 a1 _ _ _ _ _ _ _ _ _ _ _ _ _ _ w hi.1 hi.2 hd h34 h35 hl h36 h
 ·cases h
end Go.Proofs.YtopdjokncbpghaaGreatDoor.Pr
end
section
namespace Go.Proofs.YtopdjokncbpghaaGreatDoor.Pr
open Go.RowKit Go.Proofs.YtopdjokncbpghaaGreatDoorW.PrintWords Go.Proofs.YtopdjokncbpghaaGreatDoorW.PrintLast Go.Proofs.YtopdjokncbpghaaGreatDoorW.PrintMore
attribute [local go_sem] max2_int min2_int max_two min_two max_three min_three max_four min_four   -- for this text's walks alone
def foolscapref07_Scan.l0 : Nat → ByteArray → List (S120) → Int → Option ((List (S120)) × Int × Int)
 | 0, _, _, _ => none
 | k + 1, x0, x5, x6 => if x6 < (x0.size : Int) then (if 0 ≤ x6 then (if (bt x0 x6) = 32 then (foolscapref07_Scan.l0 k x0 x5 (wrap64 (x6 + 1))) else ((foolscapref07_one.f k x0 x6).bind fun bt186 => (if bt186.2.2.2.2.2.2.2.2.2.2.2.2.2 = 0 then (if x5.length < 1353245080339 then (foolscapref07_Scan.l0 k x0 (x5 ++ [(⟨bt186.1, (⟨bt186.2.1, bt186.2.2.1, bt186.2.2.2.1, bt186.2.2.2.2.1, bt186.2.2.2.2.2.1⟩ : S37), (⟨(⟨bt186.2.2.2.2.2.2.1, bt186.2.2.2.2.2.2.2.1⟩ : S39), bt186.2.2.2.2.2.2.2.2.1, bt186.2.2.2.2.2.2.2.2.2.1⟩ : S41), bt186.2.2.2.2.2.2.2.2.2.2.1, bt186.2.2.2.2.2.2.2.2.2.2.2.1⟩ : S120)]) bt186.2.2.2.2.2.2.2.2.2.2.2.2.1) else (none)) else (some (([] : List (S120)), x6, bt186.2.2.2.2.2.2.2.2.2.2.2.2.2))))) else (none)) else (if x5.length < 1353245080339 then (some ((x5 ++ [(⟨0, (⟨0, 0, (⟨#[]⟩ : ByteArray), false, 0⟩ : S37), (⟨(⟨0, 0⟩ : S39), false, false⟩ : S41), (⟨#[]⟩ : ByteArray), (x0.size : Int)⟩ : S120)]), 0, 0)) else (none))
def foolscapref07_Scan.f (k : Nat) (a0 : ByteArray) : Option ((List (S120)) × Int × Int) := if (a0.size : Int) > 1024 then (some (([] : List (S120)), 0, 7)) else (foolscapref07_Scan.l0 k a0 ([] : List (S120)) 0)
theorem foolscapref07_Scan.calls (k : Nat) (a0 : ByteArray) (r1 : List (S120)) (r2 : Int) (r3 : Int) (w : World) (h : foolscapref07_Scan.f k a0 = some (r1, r2, r3)) :
  Calls Tryz.prog 69 #[.string a0] w fun e w' => ∃ v0_ : Value, e = .returned (.tuple #[v0_, .int .i64 r2, .int .i64 r3]) ∧ Kd.R k120 120 w' w.heap.size (fun _ => True) v0_ r1 ∧ Below w.heap.size w w' := by
 have hu120 := Tryz.underlying120
 have HB := Aside0.mk (Below.refl w.heap.size w)
 have H : (if (a0.size : Int) > 1024 then (some (([] : List (S120)), 0, 7)) else (foolscapref07_Scan.l0 k a0 ([] : List (S120)) 0)) = some (r1, r2, r3) := h
 clear h
 by_cases c2 : (a0.size : Int) > 1024
 ·rw [if_pos c2] at H
  have c2b0 : decide (1024 < (a0.size : Int)) = true := decide_eq_true c2
  have c2b1 : decide (1024 < a0.size) = true := decide_eq_true (by omega)
  clear c2
  simp only [Option.some.injEq, Prod.mk.injEq] at H
  obtain ⟨rfl, rfl, rfl⟩ := H
  go_enter Tryz.func69, Tryz.ntmps69
  go_wp2
  go_ret3
  exact ⟨_, rflE, by first | exact Kd.R_nil _ _ _ _ _ | exact Kd.N_nil _ _ _ _ _ | exact Kd.V_nil _ _ _ _ _ | exact Kd.Q_nil _ _ _ _ _ | exact Kd.S_nil _ _ _ _ _, hbA⟩
 ·rw [if_neg c2] at H
  have c2b0 : decide (1024 < (a0.size : Int)) = false := decide_eq_false c2
  have c2b1 : decide (1024 < a0.size) = false := decide_eq_false (by omega)
  clear c2
  have H' := Aside0.mk H
  clear H
  go_enter Tryz.func69, Tryz.ntmps69
  go_wp2
  go_loopg [5, 6] k (fun kq v5 v6 w' => ∃ (x5_1 : List (S120)) (x6_1 : Int), v6 = .int .i64 x6_1 ∧ Aside0 (foolscapref07_Scan.l0 kq a0 x5_1 x6_1 = some (r1, r2, r3)) ∧ Aside0 (kq ≤ k) ∧ Aside0 (Kd.R k120 120 w' w.heap.size (fun _ => True) v5 x5_1) ∧ Aside0 (Below w.heap.size w w'))
  case atStart => exact ⟨(([] : List (S120))), (0), (rflS), H', ⟨Nat.le_refl _⟩, ⟨by first | exact Kd.R_nil _ _ _ _ _ | exact Kd.N_nil _ _ _ _ _ | exact Kd.V_nil _ _ _ _ _ | exact Kd.Q_nil _ _ _ _ _ | exact Kd.S_nil _ _ _ _ _⟩, ⟨hbA⟩⟩
  case round =>
   clear H'
   try clear c2
   try clear c2b0
   try clear c2b1
   try clear p2
   obtain ⟨x5_1, x6_1, rfl, HA, HK1, HO_5, HB⟩ := hrel
   cases gk with
   | zero => exact absurd HA.out (by simp [foolscapref07_Scan.l0])
   | succ k1 =>
    have H := HA.out
    clear HA
    simp only [foolscapref07_Scan.l0] at H
    by_cases c3 : x6_1 < (a0.size : Int)
    ·rw [if_pos c3] at H
     have c3b0 : decide (x6_1 < (a0.size : Int)) = true := decide_eq_true c3
     clear c3
     by_cases c4 : 0 ≤ x6_1
     ·rw [if_pos c4] at H
      have c4b0 : decide (0 ≤ x6_1) = true := decide_eq_true c4
      clear c4
      by_cases c6 : (bt a0 x6_1) = 32
      ·rw [if_pos c6] at H
       have c6b0 : ((bt a0 x6_1) == 32) = true := beq_iff_eq.mpr c6
       have c6b1 : ((bt a0 x6_1) != 32) = false := bne_eq_false_iff_eq.mpr c6
       clear c6
       have H' := Aside0.mk H
       clear H
       have p5 : 0 ≤ (x6_1 : Int) := of_decide_eq_true kA
       have q5 : x6_1 < (a0.size : Int) := of_decide_eq_true kA
       have hx5 := bt_at a0 x6_1
       replace p5 := eq_true p5
       replace q5 := eq_true q5
       go_wp2
       go_roundg k1
       case measure => have := HK1.out; omega
       case rel => exact ⟨(x5_1), (wrap64 (x6_1 + 1)), (rflS), H', ⟨by have := HK1.out; omega⟩, ⟨by (with_reducible repeat (first | apply Kd.R_alloc | apply Kd.R_drewN | apply Kd.R_drew)); exact HO_5.out⟩, ⟨hbA⟩⟩
      ·rw [if_neg c6] at H
       have c6b0 : ((bt a0 x6_1) == 32) = false := beq_eq_false_iff_ne.mpr c6
       have c6b1 : ((bt a0 x6_1) != 32) = true := bne_iff_ne.mpr c6
       replace H := Option.bind_eq_some_iff.mp H
       obtain ⟨⟨t186, t187, t188, t189, t190, t191, t192, t193, t194, t195, t196, t197, t198, t199⟩, A70, H⟩ := H
       replace H : (if t199 = 0 then (if x5_1.length < 1353245080339 then (foolscapref07_Scan.l0 k1 a0 (x5_1 ++ [(⟨t186, (⟨t187, t188, t189, t190, t191⟩ : S37), (⟨(⟨t192, t193⟩ : S39), t194, t195⟩ : S41), t196, t197⟩ : S120)]) t198) else (none)) else (some (([] : List (S120)), x6_1, t199))) = some (r1, r2, r3) := H
       have A7 := Aside0.mk A70
       clear A70
       by_cases c8 : t199 = 0
       ·rw [if_pos c8] at H
        have c8b0 : (t199 == 0) = true := beq_iff_eq.mpr c8
        have c8b1 : (t199 != 0) = false := bne_eq_false_iff_eq.mpr c8
        clear c8
        by_cases c9 : x5_1.length < 1353245080339
        ·rw [if_pos c9] at H
         have LMc9 := Aside0.mk c9
         clear c9
         obtain ⟨y201, hy201⟩ : ∃ y_ : List (S120), y_ = (x5_1 ++ [(⟨t186, (⟨t187, t188, t189, t190, t191⟩ : S37), (⟨(⟨t192, t193⟩ : S39), t194, t195⟩ : S41), t196, t197⟩ : S120)]) := ⟨_, rfl⟩
         replace H : (foolscapref07_Scan.l0 k1 a0 y201 t198) = some (r1, r2, r3) := by first | (rw [hy201]; with_reducible exact H) | (have H2_ := (Option.bind_some _ _).symm.trans H; rw [hy201]; with_reducible exact H2_) | (have H2_ := (Option.bind_some _ _).symm.trans H; with_reducible exact H2_) | with_reducible exact H | (rw [hy201]; exact H) | exact H
         have Ny201 := Aside0.mk hy201
         clear hy201
         have H' := Aside0.mk H
         clear H
         have p5 : 0 ≤ (x6_1 : Int) := of_decide_eq_true kA
         have q5 : x6_1 < (a0.size : Int) := of_decide_eq_true kA
         have hx5 := bt_at a0 x6_1
         replace p5 := eq_true p5
         replace q5 := eq_true q5
         go_wp2_with (first | ((with_reducible refine gate_callee (f := 92) rfl ?_); refine goesL_ (some 26) rfl rfl Tryz.func92 (by kernel_rfl) rfl #[.string a0, .int .i64 x6_1] rfl argA ?_; (with_reducible refine (foolscapref07_one.calls k1 a0 x6_1 t186 t187 t188 t189 t190 t191 t192 t193 t194 t195 t196 t197 t198 t199 _ A7.out).mono ?_); rintro e w10 ⟨rfl, hb⟩; refine ⟨_, rfl, ?_⟩; have n0_ := Aside0.mk (Kd.R_below (by (with_reducible repeat (first | apply Kd.R_alloc | apply Kd.R_drewN | apply Kd.R_drew)); exact HO_5.out) hb); have n1_ := Aside0.mk (below_step (hbA) hb); clear HO_5; clear HB; have HO_5 := n0_; have HB := n1_; clear n0_ n1_; (try clear hb); (try clear hb2); (try clear hk); (try clear hi)) | ((with_reducible refine gate_dst (N := 7) rfl ?_); refine boxE 7 120 (#[.int .i64 0, .int .i64 0, .int .i64 0, .string (⟨#[]⟩ : ByteArray), .bool false, .int .i64 0, .int .i64 0, .int .i64 0, .bool false, .bool false, .string (⟨#[]⟩ : ByteArray), .int .i64 0]) ?_; intro gb200 hg w11 hbox hb; have n0_ := Aside0.mk (Kd.R_below (Kd.R_elderB (by (with_reducible repeat (first | apply Kd.R_alloc | apply Kd.R_drewN | apply Kd.R_drew)); exact HO_5.out) gb200 (Nat.le_of_eq hg.symm)) hb); have n1_ := Aside0.mk (below_step (hbA) hb); have n2_ := Aside0.mk (hbox); have n3_ := Aside0.mk ((by rw [hg]; exact (below_size (hbA)) : w.heap.size ≤ gb200)); have n4_ := n3_; clear HO_5; clear HB; have HO_5 := n0_; have HB := n1_; have BK200 := n2_; have GW200 := n3_; have GE200 := n4_; clear n0_ n1_ n2_ n3_ n4_; clear hb hbox hg; obtain ⟨hcz12_0, hcz12_1, hcz12_2, hcz12_3, hcz12_4, hcz12_5, hcz12_6, hcz12_7, hcz12_8, hcz12_9, hcz12_10, hcz12_11⟩ := cellsA12 BK200.out; obtain ⟨hfz12_0, hfz12_1, hfz12_2, hfz12_3, hfz12_4, hfz12_5, hfz12_6, hfz12_7, hfz12_8, hfz12_9, hfz12_10, hfz12_11⟩ := frozA12 BK200.out) | ((with_reducible refine gate_builtin (b := .append) (xs := #[.tmp 34, .tmp 36]) rfl ?_); at_builtin; refine Kd.R_append k120 (w0 := w) w.heap.size rfl (.tmp 34) (.tmp 36) 112 120 (.agg #[(.int .i64 0), (.int .i64 0), (.int .i64 0), (.string ⟨#[]⟩), (.bool false), (.int .i64 0), (.int .i64 0), (.int .i64 0), (.bool false), (.bool false), (.string ⟨#[]⟩), (.int .i64 0)]) 104 rfl Tryz.underlying112 info120 rfl (by decide) (by omega) u5 x5_1 (⟨t186, (⟨t187, t188, t189, t190, t191⟩ : S37), (⟨(⟨t192, t193⟩ : S39), t194, t195⟩ : S41), t196, t197⟩ : S120) [.int .i64 t186, .int .i64 t187, .int .i64 t188, .string t189, .bool t190, .int .i64 t191, .int .i64 t192, .int .i64 t193, .bool t194, .bool t195, .string t196, .int .i64 t197] (fun k_ => k_ ≠ gb200) (fun _ => False) rfl (by first | (go_simp; done) | (go_simp; rfl)) ?aP (fun _ hk => hk.elim) ?aF ?aO ?aB ?aS ?aL ?_; (case aP => exact k120_mkM _ _ _ (⟨t186, (⟨t187, t188, t189, t190, t191⟩ : S37), (⟨(⟨t192, t193⟩ : S39), t194, t195⟩ : S41), t196, t197⟩ : S120)); (case aB => exact (hbA)); (case aF => exact (fun k_ hk => Kd.freshB (g := gb200) (o := .cells #[.int .i64 t186, .int .i64 t187, .int .i64 t188, .string t189, .bool t190, .int .i64 t191, .int .i64 t192, .int .i64 t193, .bool t194, .bool t195, .string t196, .int .i64 t197] 120 (0, 0)) (by (with_reducible repeat (first | refine bqZ ?_ _ | refine bqY ?_ | refine bqX ?_ _)); refine put12 (.int .i64 0) (.int .i64 0) (.int .i64 0) (.string (⟨#[]⟩ : ByteArray)) (.bool false) (.int .i64 0) (.int .i64 0) (.int .i64 0) (.bool false) (.bool false) (.string (⟨#[]⟩ : ByteArray)) (.int .i64 0) ?_; exact (have bk_ := BK200.out; bkA)) k_ hk)); (case aO => exact (by (with_reducible repeat (first | apply Kd.R_alloc | apply Kd.R_drewN | apply Kd.R_drew)); exact Kd.R_mono (Kd.R_far (p := ⟨gb200, 11, none⟩) (Kd.R_far (p := ⟨gb200, 10, none⟩) (Kd.R_far (p := ⟨gb200, 9, none⟩) (Kd.R_far (p := ⟨gb200, 8, none⟩) (Kd.R_far (p := ⟨gb200, 7, none⟩) (Kd.R_far (p := ⟨gb200, 6, none⟩) (Kd.R_far (p := ⟨gb200, 5, none⟩) (Kd.R_far (p := ⟨gb200, 4, none⟩) (Kd.R_far (p := ⟨gb200, 3, none⟩) (Kd.R_far (p := ⟨gb200, 2, none⟩) (Kd.R_far (p := ⟨gb200, 1, none⟩) (Kd.R_far (p := ⟨gb200, 0, none⟩) (Kd.R_mono HO_5.out (fun k_ hk => (⟨hk, hk.2⟩ : _ ∧ k_ ≠ gb200))) (fun _ hk => hk.2) (.int .i64 t186)) (fun _ hk => hk.2) (.int .i64 t187)) (fun _ hk => hk.2) (.int .i64 t188)) (fun _ hk => hk.2) (.string t189)) (fun _ hk => hk.2) (.bool t190)) (fun _ hk => hk.2) (.int .i64 t191)) (fun _ hk => hk.2) (.int .i64 t192)) (fun _ hk => hk.2) (.int .i64 t193)) (fun _ hk => hk.2) (.bool t194)) (fun _ hk => hk.2) (.bool t195)) (fun _ hk => hk.2) (.string t196)) (fun _ hk => hk.2) (.int .i64 t197)) (fun _ hk => hk.1.2))); (case aS => exact (below_size (hbA))); (case aL => have := LMc9.out; omega); intro v202 w13 ho hb hg hat; rw [← Ny201.out] at ho; have n0_ := Aside0.mk (blk_grown (g := gb200) (o := .cells #[.int .i64 t186, .int .i64 t187, .int .i64 t188, .string t189, .bool t190, .int .i64 t191, .int .i64 t192, .int .i64 t193, .bool t194, .bool t195, .string t196, .int .i64 t197] 120 (0, 0)) (by (with_reducible repeat (first | refine bqZ ?_ _ | refine bqY ?_ | refine bqX ?_ _)); refine put12 (.int .i64 0) (.int .i64 0) (.int .i64 0) (.string (⟨#[]⟩ : ByteArray)) (.bool false) (.int .i64 0) (.int .i64 0) (.int .i64 0) (.bool false) (.bool false) (.string (⟨#[]⟩ : ByteArray)) (.int .i64 0) ?_; exact (have bk_ := BK200.out; bkA)) hg (Kd.R_away HO_5.out (fun _ hk => hk.2))); have n1_ := Aside0.mk (hb); have n2_ := Aside0.mk (ho); clear BK200; clear HB; clear HO_5; have BK200 := n0_; have HB := n1_; have HO203 := n2_; clear n0_ n1_ n2_; clear ho hb hg hat))
         go_roundg k1
         case measure => have := HK1.out; omega
         case rel => exact ⟨(y201), (t198), (rflS), H', ⟨by have := HK1.out; omega⟩, ⟨by (with_reducible repeat (first | apply Kd.R_alloc | apply Kd.R_drewN | apply Kd.R_drew)); exact Kd.R_mono HO203.out (fun _ hk => trivial)⟩, ⟨hbA⟩⟩
        ·rw [if_neg c9] at H
         exact absurd H (by simp)
       ·rw [if_neg c8] at H
        have c8b0 : (t199 == 0) = false := beq_eq_false_iff_ne.mpr c8
        have c8b1 : (t199 != 0) = true := bne_iff_ne.mpr c8
        simp only [Option.some.injEq, Prod.mk.injEq] at H
        obtain ⟨rfl, rfl, rfl⟩ := H
        have p5 : 0 ≤ (x6_1 : Int) := of_decide_eq_true kA
        have q5 : x6_1 < (a0.size : Int) := of_decide_eq_true kA
        have hx5 := bt_at a0 x6_1
        replace p5 := eq_true p5
        replace q5 := eq_true q5
        go_wp2_with (first | ((with_reducible refine gate_callee (f := 92) rfl ?_); refine goesL_ (some 26) rfl rfl Tryz.func92 (by kernel_rfl) rfl #[.string a0, .int .i64 x6_1] rfl argA ?_; (with_reducible refine (foolscapref07_one.calls k1 a0 x6_1 t186 t187 t188 t189 t190 t191 t192 t193 t194 t195 t196 t197 t198 t199 _ A7.out).mono ?_); rintro e w14 ⟨rfl, hb⟩; refine ⟨_, rfl, ?_⟩; have n0_ := Aside0.mk (Kd.R_below (by (with_reducible repeat (first | apply Kd.R_alloc | apply Kd.R_drewN | apply Kd.R_drew)); exact HO_5.out) hb); have n1_ := Aside0.mk (below_step (hbA) hb); clear HO_5; clear HB; have HO_5 := n0_; have HB := n1_; clear n0_ n1_; (try clear hb); (try clear hb2); (try clear hk); (try clear hi)) | ((with_reducible refine gate_dst (N := 7) rfl ?_); refine boxE 7 120 (#[.int .i64 0, .int .i64 0, .int .i64 0, .string (⟨#[]⟩ : ByteArray), .bool false, .int .i64 0, .int .i64 0, .int .i64 0, .bool false, .bool false, .string (⟨#[]⟩ : ByteArray), .int .i64 0]) ?_; intro gb200 hg w15 hbox hb; have n0_ := Aside0.mk (Kd.R_below (Kd.R_elderB (by (with_reducible repeat (first | apply Kd.R_alloc | apply Kd.R_drewN | apply Kd.R_drew)); exact HO_5.out) gb200 (Nat.le_of_eq hg.symm)) hb); have n1_ := Aside0.mk (below_step (hbA) hb); have n2_ := Aside0.mk (hbox); have n3_ := Aside0.mk ((by rw [hg]; exact (below_size (hbA)) : w.heap.size ≤ gb200)); have n4_ := n3_; clear HO_5; clear HB; have HO_5 := n0_; have HB := n1_; have BK200 := n2_; have GW200 := n3_; have GE200 := n4_; clear n0_ n1_ n2_ n3_ n4_; clear hb hbox hg; obtain ⟨hcz16_0, hcz16_1, hcz16_2, hcz16_3, hcz16_4, hcz16_5, hcz16_6, hcz16_7, hcz16_8, hcz16_9, hcz16_10, hcz16_11⟩ := cellsA12 BK200.out; obtain ⟨hfz16_0, hfz16_1, hfz16_2, hfz16_3, hfz16_4, hfz16_5, hfz16_6, hfz16_7, hfz16_8, hfz16_9, hfz16_10, hfz16_11⟩ := frozA12 BK200.out))
        go_ret3
        exact ⟨_, rflE, by first | exact Kd.R_nil _ _ _ _ _ | exact Kd.N_nil _ _ _ _ _ | exact Kd.V_nil _ _ _ _ _ | exact Kd.Q_nil _ _ _ _ _ | exact Kd.S_nil _ _ _ _ _, hbA⟩
     ·rw [if_neg c4] at H
      exact absurd H (by simp)
    ·rw [if_neg c3] at H
     have c3b0 : decide (x6_1 < (a0.size : Int)) = false := decide_eq_false c3
     clear c3
     by_cases c17 : x5_1.length < 1353245080339
     ·rw [if_pos c17] at H
      have LMc17 := Aside0.mk c17
      clear c17
      obtain ⟨y183, hy183⟩ : ∃ y_ : List (S120), y_ = (x5_1 ++ [(⟨0, (⟨0, 0, (⟨#[]⟩ : ByteArray), false, 0⟩ : S37), (⟨(⟨0, 0⟩ : S39), false, false⟩ : S41), (⟨#[]⟩ : ByteArray), (a0.size : Int)⟩ : S120)]) := ⟨_, rfl⟩
      replace H : (some (y183, 0, 0)) = some (r1, r2, r3) := by first | (rw [hy183]; with_reducible exact H) | (have H2_ := (Option.bind_some _ _).symm.trans H; rw [hy183]; with_reducible exact H2_) | (have H2_ := (Option.bind_some _ _).symm.trans H; with_reducible exact H2_) | with_reducible exact H | (rw [hy183]; exact H) | exact H
      have Ny183 := Aside0.mk hy183
      clear hy183
      simp only [Option.some.injEq, Prod.mk.injEq] at H
      obtain ⟨rfl, rfl, rfl⟩ := H
      go_wp2_with (first | ((with_reducible refine gate_builtin (b := .append) (xs := #[.tmp 39, .tmp 43]) rfl ?_); at_builtin; refine Kd.R_append k120 (w0 := w) w.heap.size rfl (.tmp 39) (.tmp 43) 112 120 (.agg #[(.int .i64 0), (.int .i64 0), (.int .i64 0), (.string ⟨#[]⟩), (.bool false), (.int .i64 0), (.int .i64 0), (.int .i64 0), (.bool false), (.bool false), (.string ⟨#[]⟩), (.int .i64 0)]) 104 rfl Tryz.underlying112 info120 rfl (by decide) (by omega) u5 x5_1 (⟨0, (⟨0, 0, (⟨#[]⟩ : ByteArray), false, 0⟩ : S37), (⟨(⟨0, 0⟩ : S39), false, false⟩ : S41), (⟨#[]⟩ : ByteArray), (a0.size : Int)⟩ : S120) [.int .i64 0, .int .i64 0, .int .i64 0, .string (⟨#[]⟩ : ByteArray), .bool false, .int .i64 0, .int .i64 0, .int .i64 0, .bool false, .bool false, .string (⟨#[]⟩ : ByteArray), .int .i64 (a0.size : Int)] (fun _ => True) (fun _ => False) rfl rfl ?aP (fun _ hk => hk.elim) ?aF ?aO ?aB ?aS ?aL ?_; (case aP => exact k120_mkM _ _ _ (⟨0, (⟨0, 0, (⟨#[]⟩ : ByteArray), false, 0⟩ : S37), (⟨(⟨0, 0⟩ : S39), false, false⟩ : S41), (⟨#[]⟩ : ByteArray), (a0.size : Int)⟩ : S120)); (case aB => exact (hbA)); (case aF => exact (fun _ _ => trivial)); (case aO => exact (by (with_reducible repeat (first | apply Kd.R_alloc | apply Kd.R_drewN | apply Kd.R_drew)); exact HO_5.out)); (case aS => exact (below_size (hbA))); (case aL => have := LMc17.out; omega); intro v184 w18 ho hb hg hat; rw [← Ny183.out] at ho; have n0_ := Aside0.mk (hb); have n1_ := Aside0.mk (ho); clear HB; clear HO_5; have HB := n0_; have HO185 := n1_; clear n0_ n1_; clear ho hb hg hat))
      go_ret3
      exact ⟨_, rflE, by (with_reducible repeat (first | apply Kd.R_alloc | apply Kd.R_drewN | apply Kd.R_drew)); exact HO185.out, hbA⟩
     ·rw [if_neg c17] at H
      exact absurd H (by simp)
def foolscapref08_is.f (l0 : List (S120)) (a1 : Int) (a2 : ByteArray) : Option (Bool) := if 0 ≤ a1 then (if a1 < (l0.length : Int) then (if ((rd_T120 l0 a1).f0) = 4 then (some (((rd_T120 l0 a1).f3).toList == a2.toList)) else (some false)) else (none)) else (none)
theorem foolscapref08_is.calls (A0 : Option Addr) (c0 : Nat) (l0 : List (S120)) (a1 : Int) (a2 : ByteArray) (r : Bool) (w : World) (hr0 : Kd.C k120 w A0 l0.length l0) (hc0 : l0.length ≤ c0) (h : foolscapref08_is.f l0 a1 a2 = some r) :
  Calls Tryz.prog 94 #[.slice A0 l0.length c0, .int .i64 a1, .string a2] w fun e w' => e = .returned (.bool r) ∧ Drawn0 w w' := by
 have HR0 := Aside0.mk hr0
 have HC0 := Aside0.mk hc0
 clear hr0 hc0
 have H : (if 0 ≤ a1 then (if a1 < (l0.length : Int) then (if ((rd_T120 l0 a1).f0) = 4 then (some (((rd_T120 l0 a1).f3).toList == a2.toList)) else (some false)) else (none)) else (none)) = some r := h
 clear h
 by_cases c4 : 0 ≤ a1
 ·rw [if_pos c4] at H
  have c4b0 : decide (0 ≤ a1) = true := decide_eq_true c4
  clear c4
  by_cases c5 : a1 < (l0.length : Int)
  ·rw [if_pos c5] at H
   have c5b0 : decide (a1 < (l0.length : Int)) = true := decide_eq_true c5
   clear c5
   by_cases c6 : ((rd_T120 l0 a1).f0) = 4
   ·rw [if_pos c6] at H
    have c6b0 : (((rd_T120 l0 a1).f0) == 4) = true := beq_iff_eq.mpr c6
    have c6b1 : (((rd_T120 l0 a1).f0) != 4) = false := bne_eq_false_iff_eq.mpr c6
    clear c6
    obtain rfl := Option.some.inj H
    have p204 : 0 ≤ (a1 : Int) := of_decide_eq_true kA
    have q204 : a1 < (l0.length : Int) := of_decide_eq_true kA
    obtain ⟨ad204, e204, hx204_0, hx204_1, hx204_2, hx204_3, hx204_4, hx204_5, hx204_6, hx204_7, hx204_8, hx204_9, hx204_10, hx204_11⟩ := at_T120 HR0.out a1 p204 q204
    cases e204
    replace p204 := eq_true p204
    replace q204 := eq_true q204
    have p205 : 0 ≤ (a1 : Int) := of_decide_eq_true kA
    have q205 : a1 < (l0.length : Int) := of_decide_eq_true kA
    obtain ⟨ad205, e205, hx205_0, hx205_1, hx205_2, hx205_3, hx205_4, hx205_5, hx205_6, hx205_7, hx205_8, hx205_9, hx205_10, hx205_11⟩ := at_T120 HR0.out a1 p205 q205
    obtain rfl : ad204 = ad205 := (by injection e205)
    replace p205 := eq_true p205
    replace q205 := eq_true q205
    go_enter Tryz.func94, Tryz.ntmps94
    go_wp2
    go_ret
    exact ⟨rflS, drA⟩
   ·rw [if_neg c6] at H
    have c6b0 : (((rd_T120 l0 a1).f0) == 4) = false := beq_eq_false_iff_ne.mpr c6
    have c6b1 : (((rd_T120 l0 a1).f0) != 4) = true := bne_iff_ne.mpr c6
    obtain rfl := Option.some.inj H
    have p204 : 0 ≤ (a1 : Int) := of_decide_eq_true kA
    have q204 : a1 < (l0.length : Int) := of_decide_eq_true kA
    obtain ⟨ad204, e204, hx204_0, hx204_1, hx204_2, hx204_3, hx204_4, hx204_5, hx204_6, hx204_7, hx204_8, hx204_9, hx204_10, hx204_11⟩ := at_T120 HR0.out a1 p204 q204
    cases e204
    replace p204 := eq_true p204
    replace q204 := eq_true q204
    go_enter Tryz.func94, Tryz.ntmps94
    go_wp2
    go_ret
    exact ⟨rflS, drA⟩
  ·rw [if_neg c5] at H
   exact absurd H (by simp)
 ·rw [if_neg c4] at H
  exact absurd H (by simp)
def num_Fits.f (a0 : Int) : Option (Bool) := if a0 ≥ (-1000000000000000000) then (some (decide (a0 ≤ 1000000000000000000))) else (some false)
theorem num_Fits.calls (a0 : Int) (r : Bool) (w : World) (h : num_Fits.f a0 = some r) :
  Calls Tryz.prog 95 #[.int .i64 a0] w fun e w' => e = .returned (.bool r) ∧ Drawn0 w w' := by
 have H : (if a0 ≥ (-1000000000000000000) then (some (decide (a0 ≤ 1000000000000000000))) else (some false)) = some r := h
 clear h
 by_cases c2 : a0 ≥ (-1000000000000000000)
 ·rw [if_pos c2] at H
  have c2b0 : decide ((-1000000000000000000) ≤ a0) = true := decide_eq_true c2
  clear c2
  obtain rfl := Option.some.inj H
  go_enter Tryz.func95, Tryz.ntmps95
  go_wp2
  go_ret
  exact ⟨rflS, drA⟩
 ·rw [if_neg c2] at H
  have c2b0 : decide ((-1000000000000000000) ≤ a0) = false := decide_eq_false c2
  clear c2
  obtain rfl := Option.some.inj H
  go_enter Tryz.func95, Tryz.ntmps95
  go_wp2
  go_ret
  exact ⟨rflS, drA⟩
end Go.Proofs.YtopdjokncbpghaaGreatDoor.Pr
end
