/-
  Lemmas for the law LexScansLexPairs.
-/
import Derived.Test.YtmppnobldhhpjaaGreatDoorSLexScansLexPairs24
import Derived.Test.YtmppnobldhhpjaaGreatDoorSLexScansLexPairs29
import Derived.Test.YtmppnobldhhpjaaGreatDoorSLexScansLexPairs25
import Derived.Test.YtmppnobldhhpjaaGreatDoorSLexScansLexPairs10
import Derived.Test.YtmppnobldhhpjaaGreatDoorSLexScansLexPairs12
import Derived.Test.YtmppnobldhhpjaaGreatDoorSLexScansLexPairs17
section
namespace Go.Proofs.YtmppnobldhhpjaaGreatDoor.Pr
set_option linter.unusedVariables false
set_option linter.unusedSimpArgs false
open Go.RowKit Go.Proofs.YtmppnobldhhpjaaGreatDoorW.PrintWords Go.Proofs.YtmppnobldhhpjaaGreatDoorW.PrintLast Go.Proofs.YtmppnobldhhpjaaGreatDoorW.PrintMore
def foolscapref07_one.f (k : Nat) (a0 : ByteArray) (a1 : Int) : Option (Int × Int × Int × ByteArray × Bool × Int × Int × Int × Bool × Bool × ByteArray × Int × Int × Int) :=
  if 0 ≤ a1 ∧ a1 < (a0.size : Int) then (foolscapref07_digit.f (bt a0 a1)).bind fun t => if t = true then foolscapref07_number.f k a0 a1 else if bt a0 a1 = 34 then foolscapref07_text.f k a0 a1 else if bt a0 a1 = 35 then foolscapref07_fault.f k a0 a1 else (foolscapref07_letter.f (bt a0 a1)).bind fun u => if u = true ∨ bt a0 a1 = 36 then foolscapref07_word.f k a0 a1 else foolscapref07_sign.f k a0 a1 else none
set_option maxHeartbeats 4000000 in
set_option maxRecDepth 100000 in
theorem one_number (k : Nat) (a0 : ByteArray) (a1 : Int) (r1 : Int) (r2 : Int) (r3 : Int) (r4 : ByteArray) (r5 : Bool) (r6 : Int) (r7 : Int) (r8 : Int) (r9 : Bool) (r10 : Bool) (r11 : ByteArray) (r12 : Int) (r13 : Int) (r14 : Int) (w : World) (h0 : 0 ≤ a1) (h1 : a1 < (a0.size : Int)) (hd : foolscapref07_digit.f (bt a0 a1) = some true) (h : foolscapref07_number.f k a0 a1 = some (r1, r2, r3, r4, r5, r6, r7, r8, r9, r10, r11, r12, r13, r14)) :
    Calls Tryz.prog 15 #[.string a0, .int .i64 a1] w fun e w' => e = .returned (.tuple #[.agg #[.int .i64 r1, .int .i64 r2, .int .i64 r3, .string r4, .bool r5, .int .i64 r6, .int .i64 r7, .int .i64 r8, .bool r9, .bool r10, .string r11, .int .i64 r12], .int .i64 r13, .int .i64 r14]) ∧ Below w.heap.size w w' := by
  have H := Aside0.mk h
  clear h
  have HD := Aside0.mk hd
  clear hd
  have hbt := bt_at a0 a1
  go_enter Tryz.func15, Tryz.ntmps15
  go_wp2_with (first
    | (go_at_call 18; (with_reducible refine (foolscapref07_digit.calls _ _ _ HD.out).mono ?_); rintro e w1 ⟨rfl, nd, rfl⟩)
    | (go_at_call 19; (with_reducible refine (foolscapref07_number.calls k a0 a1 _ _ _ _ _ _ _ _ _ _ _ _ _ _ _ H.out).mono ?_); rintro e w1 ⟨rfl, hb⟩; have hg := blk_below (blk_drewN (newBlk w (.cells #[.int .i64 0, .int .i64 0, .int .i64 0, .string (⟨#[]⟩ : ByteArray), .bool false, .int .i64 0, .int .i64 0, .int .i64 0, .bool false, .bool false, .string (⟨#[]⟩ : ByteArray), .int .i64 0] 45)) _) hb; have HB := Aside0.mk (below_step (pw_below_drewN (bel1 w _) _) hb); have HG := Aside0.mk hg; clear hb hg)
    | ((with_reducible refine gate_store (t := 45) (p := 4) (v := .tmp 17) rfl ?_); refine wpRowSt rfl 45 (.tmp 4) (.tmp 17) rfl w.heap.size #[.int .i64 r1, .int .i64 r2, .int .i64 r3, .string r4, .bool r5, .int .i64 r6, .int .i64 r7, .int .i64 r8, .bool r9, .bool r10, .string r11, .int .i64 r12] rfl rfl 45 _ HG.out (by kernel_rfl) rfl rfl ?_))
  refine bodyPost_ret (results_ctt rfl _ _ w.heap.size 45 #[.int .i64 r1, .int .i64 r2, .int .i64 r3, .string r4, .bool r5, .int .i64 r6, .int .i64 r7, .int .i64 r8, .bool r9, .bool r10, .string r11, .int .i64 r12] (0, 0) _ rfl (setRow_heap _ _ _ _ _ _ HG.out) Tryz.underlying45 rfl (by kernel_rfl)) rfl ?_
  exact ⟨rfl, rowBelow HB.out (Nat.le_refl _) _⟩
set_option maxHeartbeats 4000000 in
set_option maxRecDepth 100000 in
theorem one_text (k : Nat) (a0 : ByteArray) (a1 : Int) (r1 : Int) (r2 : Int) (r3 : Int) (r4 : ByteArray) (r5 : Bool) (r6 : Int) (r7 : Int) (r8 : Int) (r9 : Bool) (r10 : Bool) (r11 : ByteArray) (r12 : Int) (r13 : Int) (r14 : Int) (w : World) (h0 : 0 ≤ a1) (h1 : a1 < (a0.size : Int)) (hd : foolscapref07_digit.f (bt a0 a1) = some false) (hn34 : bt a0 a1 = 34) (h : foolscapref07_text.f k a0 a1 = some (r1, r2, r3, r4, r5, r6, r7, r8, r9, r10, r11, r12, r13, r14)) :
    Calls Tryz.prog 15 #[.string a0, .int .i64 a1] w fun e w' => e = .returned (.tuple #[.agg #[.int .i64 r1, .int .i64 r2, .int .i64 r3, .string r4, .bool r5, .int .i64 r6, .int .i64 r7, .int .i64 r8, .bool r9, .bool r10, .string r11, .int .i64 r12], .int .i64 r13, .int .i64 r14]) ∧ Below w.heap.size w w' := by
  have H := Aside0.mk h
  clear h
  have HD := Aside0.mk hd
  clear hd
  have hc34 : (bt a0 a1 == 34) = true := beq_iff_eq.mpr hn34
  clear hn34
  have hbt := bt_at a0 a1
  go_enter Tryz.func15, Tryz.ntmps15
  go_wp2_with (first
    | (go_at_call 18; (with_reducible refine (foolscapref07_digit.calls _ _ _ HD.out).mono ?_); rintro e w1 ⟨rfl, nd, rfl⟩)
    | (go_at_call 20; (with_reducible refine (foolscapref07_text.calls k a0 a1 _ _ _ _ _ _ _ _ _ _ _ _ _ _ _ H.out).mono ?_); rintro e w1 ⟨rfl, hb⟩; have hg := blk_below (blk_drewN (newBlk w (.cells #[.int .i64 0, .int .i64 0, .int .i64 0, .string (⟨#[]⟩ : ByteArray), .bool false, .int .i64 0, .int .i64 0, .int .i64 0, .bool false, .bool false, .string (⟨#[]⟩ : ByteArray), .int .i64 0] 45)) _) hb; have HB := Aside0.mk (below_step (pw_below_drewN (bel1 w _) _) hb); have HG := Aside0.mk hg; clear hb hg)
    | ((with_reducible refine gate_store (t := 45) (p := 4) (v := .tmp 26) rfl ?_); refine wpRowSt rfl 45 (.tmp 4) (.tmp 26) rfl w.heap.size #[.int .i64 r1, .int .i64 r2, .int .i64 r3, .string r4, .bool r5, .int .i64 r6, .int .i64 r7, .int .i64 r8, .bool r9, .bool r10, .string r11, .int .i64 r12] rfl rfl 45 _ HG.out (by kernel_rfl) rfl rfl ?_))
  refine bodyPost_ret (results_ctt rfl _ _ w.heap.size 45 #[.int .i64 r1, .int .i64 r2, .int .i64 r3, .string r4, .bool r5, .int .i64 r6, .int .i64 r7, .int .i64 r8, .bool r9, .bool r10, .string r11, .int .i64 r12] (0, 0) _ rfl (setRow_heap _ _ _ _ _ _ HG.out) Tryz.underlying45 rfl (by kernel_rfl)) rfl ?_
  exact ⟨rfl, rowBelow HB.out (Nat.le_refl _) _⟩
set_option maxHeartbeats 4000000 in
set_option maxRecDepth 100000 in
theorem one_fault (k : Nat) (a0 : ByteArray) (a1 : Int) (r1 : Int) (r2 : Int) (r3 : Int) (r4 : ByteArray) (r5 : Bool) (r6 : Int) (r7 : Int) (r8 : Int) (r9 : Bool) (r10 : Bool) (r11 : ByteArray) (r12 : Int) (r13 : Int) (r14 : Int) (w : World) (h0 : 0 ≤ a1) (h1 : a1 < (a0.size : Int)) (hd : foolscapref07_digit.f (bt a0 a1) = some false) (hn34 : bt a0 a1 ≠ 34) (hn35 : bt a0 a1 = 35) (h : foolscapref07_fault.f k a0 a1 = some (r1, r2, r3, r4, r5, r6, r7, r8, r9, r10, r11, r12, r13, r14)) :
    Calls Tryz.prog 15 #[.string a0, .int .i64 a1] w fun e w' => e = .returned (.tuple #[.agg #[.int .i64 r1, .int .i64 r2, .int .i64 r3, .string r4, .bool r5, .int .i64 r6, .int .i64 r7, .int .i64 r8, .bool r9, .bool r10, .string r11, .int .i64 r12], .int .i64 r13, .int .i64 r14]) ∧ Below w.heap.size w w' := by
  have H := Aside0.mk h
  clear h
  have HD := Aside0.mk hd
  clear hd
  have hc34 : (bt a0 a1 == 34) = false := beq_eq_false_iff_ne.mpr hn34
  have hc35 : (bt a0 a1 == 35) = true := beq_iff_eq.mpr hn35
  clear hn34 hn35
  have hbt := bt_at a0 a1
  go_enter Tryz.func15, Tryz.ntmps15
  go_wp2_with (first
    | (go_at_call 18; (with_reducible refine (foolscapref07_digit.calls _ _ _ HD.out).mono ?_); rintro e w1 ⟨rfl, nd, rfl⟩)
    | (go_at_call 21; (with_reducible refine (foolscapref07_fault.calls k a0 a1 _ _ _ _ _ _ _ _ _ _ _ _ _ _ _ H.out).mono ?_); rintro e w1 ⟨rfl, hb⟩; have hg := blk_below (blk_drewN (newBlk w (.cells #[.int .i64 0, .int .i64 0, .int .i64 0, .string (⟨#[]⟩ : ByteArray), .bool false, .int .i64 0, .int .i64 0, .int .i64 0, .bool false, .bool false, .string (⟨#[]⟩ : ByteArray), .int .i64 0] 45)) _) hb; have HB := Aside0.mk (below_step (pw_below_drewN (bel1 w _) _) hb); have HG := Aside0.mk hg; clear hb hg)
    | ((with_reducible refine gate_store (t := 45) (p := 4) (v := .tmp 35) rfl ?_); refine wpRowSt rfl 45 (.tmp 4) (.tmp 35) rfl w.heap.size #[.int .i64 r1, .int .i64 r2, .int .i64 r3, .string r4, .bool r5, .int .i64 r6, .int .i64 r7, .int .i64 r8, .bool r9, .bool r10, .string r11, .int .i64 r12] rfl rfl 45 _ HG.out (by kernel_rfl) rfl rfl ?_))
  refine bodyPost_ret (results_ctt rfl _ _ w.heap.size 45 #[.int .i64 r1, .int .i64 r2, .int .i64 r3, .string r4, .bool r5, .int .i64 r6, .int .i64 r7, .int .i64 r8, .bool r9, .bool r10, .string r11, .int .i64 r12] (0, 0) _ rfl (setRow_heap _ _ _ _ _ _ HG.out) Tryz.underlying45 rfl (by kernel_rfl)) rfl ?_
  exact ⟨rfl, rowBelow HB.out (Nat.le_refl _) _⟩
set_option maxHeartbeats 4000000 in
set_option maxRecDepth 100000 in
theorem one_word (k : Nat) (a0 : ByteArray) (a1 : Int) (r1 : Int) (r2 : Int) (r3 : Int) (r4 : ByteArray) (r5 : Bool) (r6 : Int) (r7 : Int) (r8 : Int) (r9 : Bool) (r10 : Bool) (r11 : ByteArray) (r12 : Int) (r13 : Int) (r14 : Int) (w : World) (h0 : 0 ≤ a1) (h1 : a1 < (a0.size : Int)) (hd : foolscapref07_digit.f (bt a0 a1) = some false) (hn34 : bt a0 a1 ≠ 34) (hn35 : bt a0 a1 ≠ 35) (hl : foolscapref07_letter.f (bt a0 a1) = some true) (h : foolscapref07_word.f k a0 a1 = some (r1, r2, r3, r4, r5, r6, r7, r8, r9, r10, r11, r12, r13, r14)) :
    Calls Tryz.prog 15 #[.string a0, .int .i64 a1] w fun e w' => e = .returned (.tuple #[.agg #[.int .i64 r1, .int .i64 r2, .int .i64 r3, .string r4, .bool r5, .int .i64 r6, .int .i64 r7, .int .i64 r8, .bool r9, .bool r10, .string r11, .int .i64 r12], .int .i64 r13, .int .i64 r14]) ∧ Below w.heap.size w w' := by
  have H := Aside0.mk h
  clear h
  have HD := Aside0.mk hd
  clear hd
  have hc34 : (bt a0 a1 == 34) = false := beq_eq_false_iff_ne.mpr hn34
  have hc35 : (bt a0 a1 == 35) = false := beq_eq_false_iff_ne.mpr hn35
  clear hn34 hn35
  have HLe := Aside0.mk hl
  clear hl
  have hbt := bt_at a0 a1
  go_enter Tryz.func15, Tryz.ntmps15
  go_wp2_with (first
    | (go_at_call 18; (with_reducible refine (foolscapref07_digit.calls _ _ _ HD.out).mono ?_); rintro e w1 ⟨rfl, nd, rfl⟩)
    | (go_at_call 22; (with_reducible refine (foolscapref07_letter.calls _ _ _ HLe.out).mono ?_); rintro e w1 ⟨rfl, nd2, rfl⟩)
    | (go_at_call 23; (with_reducible refine (foolscapref07_word.calls k a0 a1 _ _ _ _ _ _ _ _ _ _ _ _ _ _ _ H.out).mono ?_); rintro e w1 ⟨rfl, hb⟩; have hg := blk_below (blk_drewN (newBlk w (.cells #[.int .i64 0, .int .i64 0, .int .i64 0, .string (⟨#[]⟩ : ByteArray), .bool false, .int .i64 0, .int .i64 0, .int .i64 0, .bool false, .bool false, .string (⟨#[]⟩ : ByteArray), .int .i64 0] 45)) _) hb; have HB := Aside0.mk (below_step (pw_below_drewN (bel1 w _) _) hb); have HG := Aside0.mk hg; clear hb hg)
    | ((with_reducible refine gate_store (t := 45) (p := 4) (v := .tmp 48) rfl ?_); refine wpRowSt rfl 45 (.tmp 4) (.tmp 48) rfl w.heap.size #[.int .i64 r1, .int .i64 r2, .int .i64 r3, .string r4, .bool r5, .int .i64 r6, .int .i64 r7, .int .i64 r8, .bool r9, .bool r10, .string r11, .int .i64 r12] rfl rfl 45 _ HG.out (by kernel_rfl) rfl rfl ?_))
  refine bodyPost_ret (results_ctt rfl _ _ w.heap.size 45 #[.int .i64 r1, .int .i64 r2, .int .i64 r3, .string r4, .bool r5, .int .i64 r6, .int .i64 r7, .int .i64 r8, .bool r9, .bool r10, .string r11, .int .i64 r12] (0, 0) _ rfl (setRow_heap _ _ _ _ _ _ HG.out) Tryz.underlying45 rfl (by kernel_rfl)) rfl ?_
  exact ⟨rfl, rowBelow HB.out (Nat.le_refl _) _⟩
set_option maxHeartbeats 4000000 in
set_option maxRecDepth 100000 in
theorem one_word2 (k : Nat) (a0 : ByteArray) (a1 : Int) (r1 : Int) (r2 : Int) (r3 : Int) (r4 : ByteArray) (r5 : Bool) (r6 : Int) (r7 : Int) (r8 : Int) (r9 : Bool) (r10 : Bool) (r11 : ByteArray) (r12 : Int) (r13 : Int) (r14 : Int) (w : World) (h0 : 0 ≤ a1) (h1 : a1 < (a0.size : Int)) (hd : foolscapref07_digit.f (bt a0 a1) = some false) (hn34 : bt a0 a1 ≠ 34) (hn35 : bt a0 a1 ≠ 35) (hl : foolscapref07_letter.f (bt a0 a1) = some false) (hn36 : bt a0 a1 = 36) (h : foolscapref07_word.f k a0 a1 = some (r1, r2, r3, r4, r5, r6, r7, r8, r9, r10, r11, r12, r13, r14)) :
    Calls Tryz.prog 15 #[.string a0, .int .i64 a1] w fun e w' => e = .returned (.tuple #[.agg #[.int .i64 r1, .int .i64 r2, .int .i64 r3, .string r4, .bool r5, .int .i64 r6, .int .i64 r7, .int .i64 r8, .bool r9, .bool r10, .string r11, .int .i64 r12], .int .i64 r13, .int .i64 r14]) ∧ Below w.heap.size w w' := by
  have H := Aside0.mk h
  clear h
  have HD := Aside0.mk hd
  clear hd
  have hc34 : (bt a0 a1 == 34) = false := beq_eq_false_iff_ne.mpr hn34
  have hc35 : (bt a0 a1 == 35) = false := beq_eq_false_iff_ne.mpr hn35
  clear hn34 hn35
  have HLe := Aside0.mk hl
  clear hl
  have hc36 : (bt a0 a1 == 36) = true := beq_iff_eq.mpr hn36
  clear hn36
  have hbt := bt_at a0 a1
  go_enter Tryz.func15, Tryz.ntmps15
  go_wp2_with (first
    | (go_at_call 18; (with_reducible refine (foolscapref07_digit.calls _ _ _ HD.out).mono ?_); rintro e w1 ⟨rfl, nd, rfl⟩)
    | (go_at_call 22; (with_reducible refine (foolscapref07_letter.calls _ _ _ HLe.out).mono ?_); rintro e w1 ⟨rfl, nd2, rfl⟩)
    | (go_at_call 23; (with_reducible refine (foolscapref07_word.calls k a0 a1 _ _ _ _ _ _ _ _ _ _ _ _ _ _ _ H.out).mono ?_); rintro e w1 ⟨rfl, hb⟩; have hg := blk_below (blk_drewN (newBlk w (.cells #[.int .i64 0, .int .i64 0, .int .i64 0, .string (⟨#[]⟩ : ByteArray), .bool false, .int .i64 0, .int .i64 0, .int .i64 0, .bool false, .bool false, .string (⟨#[]⟩ : ByteArray), .int .i64 0] 45)) _) hb; have HB := Aside0.mk (below_step (pw_below_drewN (bel1 w _) _) hb); have HG := Aside0.mk hg; clear hb hg)
    | ((with_reducible refine gate_store (t := 45) (p := 4) (v := .tmp 48) rfl ?_); refine wpRowSt rfl 45 (.tmp 4) (.tmp 48) rfl w.heap.size #[.int .i64 r1, .int .i64 r2, .int .i64 r3, .string r4, .bool r5, .int .i64 r6, .int .i64 r7, .int .i64 r8, .bool r9, .bool r10, .string r11, .int .i64 r12] rfl rfl 45 _ HG.out (by kernel_rfl) rfl rfl ?_))
  refine bodyPost_ret (results_ctt rfl _ _ w.heap.size 45 #[.int .i64 r1, .int .i64 r2, .int .i64 r3, .string r4, .bool r5, .int .i64 r6, .int .i64 r7, .int .i64 r8, .bool r9, .bool r10, .string r11, .int .i64 r12] (0, 0) _ rfl (setRow_heap _ _ _ _ _ _ HG.out) Tryz.underlying45 rfl (by kernel_rfl)) rfl ?_
  exact ⟨rfl, rowBelow HB.out (Nat.le_refl _) _⟩
set_option maxHeartbeats 4000000 in
set_option maxRecDepth 100000 in
theorem one_sign (k : Nat) (a0 : ByteArray) (a1 : Int) (r1 : Int) (r2 : Int) (r3 : Int) (r4 : ByteArray) (r5 : Bool) (r6 : Int) (r7 : Int) (r8 : Int) (r9 : Bool) (r10 : Bool) (r11 : ByteArray) (r12 : Int) (r13 : Int) (r14 : Int) (w : World) (h0 : 0 ≤ a1) (h1 : a1 < (a0.size : Int)) (hd : foolscapref07_digit.f (bt a0 a1) = some false) (hn34 : bt a0 a1 ≠ 34) (hn35 : bt a0 a1 ≠ 35) (hl : foolscapref07_letter.f (bt a0 a1) = some false) (hn36 : bt a0 a1 ≠ 36) (h : foolscapref07_sign.f k a0 a1 = some (r1, r2, r3, r4, r5, r6, r7, r8, r9, r10, r11, r12, r13, r14)) :
    Calls Tryz.prog 15 #[.string a0, .int .i64 a1] w fun e w' => e = .returned (.tuple #[.agg #[.int .i64 r1, .int .i64 r2, .int .i64 r3, .string r4, .bool r5, .int .i64 r6, .int .i64 r7, .int .i64 r8, .bool r9, .bool r10, .string r11, .int .i64 r12], .int .i64 r13, .int .i64 r14]) ∧ Below w.heap.size w w' := by
  have H := Aside0.mk h
  clear h
  have HD := Aside0.mk hd
  clear hd
  have hc34 : (bt a0 a1 == 34) = false := beq_eq_false_iff_ne.mpr hn34
  have hc35 : (bt a0 a1 == 35) = false := beq_eq_false_iff_ne.mpr hn35
  clear hn34 hn35
  have HLe := Aside0.mk hl
  clear hl
  have hc36 : (bt a0 a1 == 36) = false := beq_eq_false_iff_ne.mpr hn36
  clear hn36
  have hbt := bt_at a0 a1
  go_enter Tryz.func15, Tryz.ntmps15
  go_wp2_with (first
    | (go_at_call 18; (with_reducible refine (foolscapref07_digit.calls _ _ _ HD.out).mono ?_); rintro e w1 ⟨rfl, nd, rfl⟩)
    | (go_at_call 22; (with_reducible refine (foolscapref07_letter.calls _ _ _ HLe.out).mono ?_); rintro e w1 ⟨rfl, nd2, rfl⟩)
    | (go_at_call 24; (with_reducible refine (foolscapref07_sign.calls k a0 a1 _ _ _ _ _ _ _ _ _ _ _ _ _ _ _ H.out).mono ?_); rintro e w1 ⟨rfl, hb⟩; have hg := blk_below (blk_drewN (newBlk w (.cells #[.int .i64 0, .int .i64 0, .int .i64 0, .string (⟨#[]⟩ : ByteArray), .bool false, .int .i64 0, .int .i64 0, .int .i64 0, .bool false, .bool false, .string (⟨#[]⟩ : ByteArray), .int .i64 0] 45)) _) hb; have HB := Aside0.mk (below_step (pw_below_drewN (bel1 w _) _) hb); have HG := Aside0.mk hg; clear hb hg)
    | ((with_reducible refine gate_store (t := 45) (p := 4) (v := .tmp 54) rfl ?_); refine wpRowSt rfl 45 (.tmp 4) (.tmp 54) rfl w.heap.size #[.int .i64 r1, .int .i64 r2, .int .i64 r3, .string r4, .bool r5, .int .i64 r6, .int .i64 r7, .int .i64 r8, .bool r9, .bool r10, .string r11, .int .i64 r12] rfl rfl 45 _ HG.out (by kernel_rfl) rfl rfl ?_))
  refine bodyPost_ret (results_ctt rfl _ _ w.heap.size 45 #[.int .i64 r1, .int .i64 r2, .int .i64 r3, .string r4, .bool r5, .int .i64 r6, .int .i64 r7, .int .i64 r8, .bool r9, .bool r10, .string r11, .int .i64 r12] (0, 0) _ rfl (setRow_heap _ _ _ _ _ _ HG.out) Tryz.underlying45 rfl (by kernel_rfl)) rfl ?_
  exact ⟨rfl, rowBelow HB.out (Nat.le_refl _) _⟩
theorem foolscapref07_one.calls (k : Nat) (a0 : ByteArray) (a1 : Int) (r1 : Int) (r2 : Int) (r3 : Int) (r4 : ByteArray) (r5 : Bool) (r6 : Int) (r7 : Int) (r8 : Int) (r9 : Bool) (r10 : Bool) (r11 : ByteArray) (r12 : Int) (r13 : Int) (r14 : Int) (w : World) (h : foolscapref07_one.f k a0 a1 = some (r1, r2, r3, r4, r5, r6, r7, r8, r9, r10, r11, r12, r13, r14)) :
    Calls Tryz.prog 15 #[.string a0, .int .i64 a1] w fun e w' => e = .returned (.tuple #[.agg #[.int .i64 r1, .int .i64 r2, .int .i64 r3, .string r4, .bool r5, .int .i64 r6, .int .i64 r7, .int .i64 r8, .bool r9, .bool r10, .string r11, .int .i64 r12], .int .i64 r13, .int .i64 r14]) ∧ Below w.heap.size w w' := by
  unfold foolscapref07_one.f at h
  split at h
  · rename_i hi
    obtain ⟨t, hd, h⟩ := Option.bind_eq_some_iff.mp h
    cases t with
    | true => exact one_number k a0 a1 _ _ _ _ _ _ _ _ _ _ _ _ _ _ w hi.1 hi.2 hd h
    | false =>
      rw [if_neg (by decide)] at h
      by_cases h34 : bt a0 a1 = 34
      · rw [if_pos h34] at h; exact one_text k a0 a1 _ _ _ _ _ _ _ _ _ _ _ _ _ _ w hi.1 hi.2 hd h34 h
      rw [if_neg h34] at h
      by_cases h35 : bt a0 a1 = 35
      · rw [if_pos h35] at h; exact one_fault k a0 a1 _ _ _ _ _ _ _ _ _ _ _ _ _ _ w hi.1 hi.2 hd h34 h35 h
      rw [if_neg h35] at h
      obtain ⟨u, hl, h⟩ := Option.bind_eq_some_iff.mp h
      cases u with
      | true => rw [if_pos (Or.inl rfl)] at h; exact one_word k a0 a1 _ _ _ _ _ _ _ _ _ _ _ _ _ _ w hi.1 hi.2 hd h34 h35 hl h
      | false =>
        by_cases h36 : bt a0 a1 = 36
        · rw [if_pos (Or.inr h36)] at h; exact one_word2 k a0 a1 _ _ _ _ _ _ _ _ _ _ _ _ _ _ w hi.1 hi.2 hd h34 h35 hl h36 h
        · rw [if_neg (fun q => q.elim (fun q => by cases q) h36)] at h; exact one_sign k a0 a1 _ _ _ _ _ _ _ _ _ _ _ _ _ _ w hi.1 hi.2 hd h34 h35 hl h36 h
  · cases h
end Go.Proofs.YtmppnobldhhpjaaGreatDoor.Pr
end
