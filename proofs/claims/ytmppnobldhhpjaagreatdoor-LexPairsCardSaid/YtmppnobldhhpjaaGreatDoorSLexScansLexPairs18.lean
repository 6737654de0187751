/-
  Lemmas for the law LexScansLexPairs.
-/
import Derived.Test.YtmppnobldhhpjaaGreatDoorSLexScansLexPairs10
import Derived.Test.YtmppnobldhhpjaaGreatDoorSLexScansLexPairs16
import Derived.Test.YtmppnobldhhpjaaGreatDoorSLexScansLexPairs17
import Derived.BigQuiet
import Derived.Deep.QuietTactic
section
namespace Go.Proofs.YtmppnobldhhpjaaGreatDoor.Pr
set_option linter.unusedVariables false
set_option linter.unusedSimpArgs false
open Go.RowKit Go.Proofs.YtmppnobldhhpjaaGreatDoorW.PrintWords Go.Proofs.YtmppnobldhhpjaaGreatDoorW.PrintLast Go.Proofs.YtmppnobldhhpjaaGreatDoorW.PrintMore
abbrev ptV (g : Nat) : Value := .pointer (some ⟨g, 0, none⟩)
def IsSc (w0 W : World) (g : Nat) (s : ByteArray) (i e : Int) : Prop := W.heap[g]? = some (.cells #[.string s, .int .i64 i, .int .i64 e] 48 (0, 0)) ∧ w0.heap.size ≤ g
theorem IsSc.below {w0 W W1 : World} {g : Nat} {s : ByteArray} {i e : Int} (h : IsSc w0 W g s i e) (hb : Below W.heap.size W W1) : IsSc w0 W1 g s i e := ⟨blk_below h.1 hb, h.2⟩
theorem IsSc.alloc {w0 W : World} {g : Nat} {s : ByteArray} {i e : Int} (h : IsSc w0 W g s i e) (o : Obj) : IsSc w0 (W.alloc o) g s i e := ⟨blk_alloc h.1 o, h.2⟩
theorem lex_digit_eq (c : UInt8) : lex_digit.f (c.toNat : Int) = some (dg c) := by
  unfold lex_digit.f dg
  by_cases h : 48 ≤ c.toNat
  · rw [if_pos (by omega)]
    simp only [Option.some.injEq]
    by_cases h2 : c.toNat ≤ 57
    · rw [decide_eq_true (by omega), decide_eq_true h, decide_eq_true h2]; rfl
    · rw [decide_eq_false (by omega), decide_eq_true h, decide_eq_false h2]; rfl
  · rw [if_neg (by omega), decide_eq_false h]; rfl
theorem lex_letter_eq (c : UInt8) : lex_letter.f (c.toNat : Int) = some (ltB c) := by
  exact u8_dec (fun c => lex_letter.f (c.toNat : Int) = some (ltB c)) (by decide +kernel) c
theorem drawn_below {w w' : World} (h : Drawn0 w w') : Below w.heap.size w w' := by
  obtain ⟨n, rfl⟩ := h
  exact pw_below_drewN (Below.refl _ _) n
theorem lexDigit_calls (c : UInt8) (w : World) : Calls Tryz.prog 25 #[.int .u8 (c.toNat : Int)] w fun e w' => e = .returned (.bool (dg c)) ∧ Below w.heap.size w w' :=
  (lex_digit.calls _ _ w (lex_digit_eq c)).mono fun e w' h => ⟨h.1, drawn_below h.2⟩
theorem lexLetter_calls (c : UInt8) (w : World) : Calls Tryz.prog 29 #[.int .u8 (c.toNat : Int)] w fun e w' => e = .returned (.bool (ltB c)) ∧ Below w.heap.size w w' :=
  (lex_letter.calls _ _ w (lex_letter_eq c)).mono fun e w' h => ⟨h.1, drawn_below h.2⟩
def SoLaw (k : Nat) (p : UInt8 → Bool) : Prop := ∀ (c : UInt8) (W : World), Calls Tryz.prog k #[.int .u8 (c.toNat : Int)] W fun e w' => e = .returned (.bool (p c)) ∧ Below W.heap.size W w'
set_option maxHeartbeats 1000000 in
theorem number1_so : SoLaw 39 nmB := by
  intro c W
  unfold nmB
  have HD := Aside0.mk fun W => lexDigit_calls c W
  have hq := u8_dec (fun c => (((c.toNat : Int) == 46) = (c == 46))) (by decide +kernel) c
  generalize dg c = d at HD
  cases d with
  | true =>
    go_enter Tryz.func39, Tryz.ntmps39
    go_wp2_with (go_at_call 25; (with_reducible refine (HD.out _).mono ?_); rintro e w1 ⟨rfl, hb⟩)
    go_ret
    exact ⟨rfl, hb⟩
  | false =>
    go_enter Tryz.func39, Tryz.ntmps39
    go_wp2_with (go_at_call 25; (with_reducible refine (HD.out _).mono ?_); rintro e w1 ⟨rfl, hb⟩)
    go_ret
    exact ⟨by simp [hq], hb⟩
set_option maxHeartbeats 2000000 in
theorem word1_so : SoLaw 44 wdB := by
  intro c W
  unfold wdB
  have HL := Aside0.mk fun W => lexLetter_calls c W
  have HD := Aside0.mk fun W => lexDigit_calls c W
  have h36 := u8_dec (fun c => (((c.toNat : Int) == 36) = (c == 36))) (by decide +kernel) c
  have h46 := u8_dec (fun c => (((c.toNat : Int) == 46) = (c == 46))) (by decide +kernel) c
  have h95 := u8_dec (fun c => (((c.toNat : Int) == 95) = (c == 95))) (by decide +kernel) c
  generalize dg c = d at HD
  generalize ltB c = t at HL
  generalize (c == 36) = x at h36
  generalize (c == 46) = y at h46
  generalize (c == 95) = z at h95
  cases t <;> cases d <;> cases x <;> cases y <;> cases z
  all_goals
    go_enter Tryz.func44, Tryz.ntmps44
    go_wp2_with (first
      | (go_at_call 29; (with_reducible refine (HL.out _).mono ?_); rintro e w1 ⟨rfl, hb⟩)
      | (go_at_call 25; (with_reducible refine (HD.out _).mono ?_); rintro e w2 ⟨rfl, hb2⟩))
    go_ret
    first | exact ⟨rfl, hb⟩ | exact ⟨rfl, below_step hb hb2⟩
theorem row_calls (g : Nat) (w : World) : Calls Tryz.prog 38 #[ptV g] w fun e w' => e = .returned (.func (.func 53) #[] #[ptV w.heap.size]) ∧ w' = w.alloc (.cells #[ptV g] 46) := by
  go_enter Tryz.func38, Tryz.ntmps38
  go_wp2
  go_ret
  exact ⟨rfl, rfl⟩
end Go.Proofs.YtmppnobldhhpjaaGreatDoor.Pr
end
section
namespace Go.Proofs.YtmppnobldhhpjaaGreatDoor.Pr
set_option linter.unusedVariables false
set_option linter.unusedSimpArgs false
open Go.RowKit Go.Proofs.YtmppnobldhhpjaaGreatDoorW.PrintWords Go.Proofs.YtmppnobldhhpjaaGreatDoorW.PrintLast Go.Proofs.YtmppnobldhhpjaaGreatDoorW.PrintMore
theorem get_at (pre l : List UInt8) (k : Nat) (h : k < l.length) (hh : pre.length + k < (bl (pre ++ l)).size) : (bl (pre ++ l))[pre.length + k]'hh = l[k] := by
  show (bl (pre ++ l)).data[pre.length + k]'_ = l[k]
  simp [bl]
def row4.T4 : Bool × List (List Nat × List Nat) := (true, [([], []), ([0], [0]), ([1], [1]), ([2], [2]), ([], []), ([4], [4]), ([5], [5]), ([6], [6]), ([], []), ([3, 7, 8], [3, 7, 8]), ([9, 0, 1, 2, 3, 4, 5, 6, 7, 8, 9], [9])])
def row4.B4 : List Nat := [0, 1, 3, 7, 0, 16, 48, 112, 0, 511, 1023]
theorem row4.tab4 : rtab .any (opsOf Tryz.f53 4) = row4.T4 := by kernel_rfl
theorem row4.bits4 : waitsOk row4.T4.2 row4.B4 = true := by kernel_rfl
set_option maxHeartbeats 4000000 in
set_option maxRecDepth 100000 in
theorem row1_num (pre l : List UInt8) (w0 w : World) (g b : Nat) (e0 : Int) (hlen : (pre ++ l).length ≤ 1024) (hI : IsSc w0 w g (bl (pre ++ l)) (pre.length : Int) e0) (hb : w.heap[b]? = some (.cells #[ptV g] 46 (0, 0))) :
    Calls Tryz.prog 53 #[.func (.func 39) #[] #[], ptV b] w fun e w' => e = .returned (.string (bl (l.takeWhile nmB))) ∧ Below w.heap.size w w' := by
  rw [List.length_append] at hlen
  have hsz : ((bl (pre ++ l)).size : Int) = ((pre.length + l.length : Nat) : Int) := by rw [bl_size, List.length_append]
  have hbt := fun k h hh => get_at pre l k h hh
  have hs0 : (bl (pre ++ l)).size = pre.length + l.length := by rw [bl_size, List.length_append]
  have hex := fun k h => ext_at pre l k h
  obtain ⟨hI, _⟩ := hI
  generalize bl (pre ++ l) = s at hI hsz hs0 hbt hex
  have q0 := (blk_cell hI 0).trans (show _ = some (Value.string s) from rfl)
  have q1 := (blk_cell hI 1).trans (show _ = some (Value.int .i64 (pre.length : Int)) from rfl)
  have qb := (blk_cell hb 0).trans (show _ = some (ptV g) from rfl)
  have HI := Aside0.mk hI
  have Hb := Aside0.mk hb
  have HX := Aside0.mk hex
  have HT := Aside0.mk hbt
  clear hI hb hex hbt
  go_enter Tryz.func53, Tryz.ntmps53
  go_wp2
  go_loopw [4] (fun v wr => ∃ k : Nat, k ≤ (l.takeWhile nmB).length ∧ v = .int .i64 ((pre.length + k : Nat) : Int) ∧ Aside0 (Below w.heap.size w wr)) (fun v _ => pre.length + l.length - (intOf v).toNat)
  case atStart => exact ⟨0, Nat.zero_le _, rfl, ⟨Below.refl _ _⟩⟩
  case round =>
    clear q0 q1 qb
    obtain ⟨k, hk, rfl, HB⟩ := hrel
    have hle := takeWhile_len (p := nmB) l
    have q0 := (blk_cell (blk_below HI.out HB.out) 0).trans (show _ = some (Value.string s) from rfl)
    have q1 := (blk_cell (blk_below HI.out HB.out) 1).trans (show _ = some (Value.int .i64 (pre.length : Int)) from rfl)
    have qb := (blk_cell (blk_below Hb.out HB.out) 0).trans (show _ = some (ptV g) from rfl)
    have HS := Aside0.mk fun c W => number1_so c W
    by_cases hkl : k < l.length
    · have hd : decide (((pre.length + k : Nat) : Int) < ((pre.length + l.length : Nat) : Int)) = true := decide_eq_true (by omega)
      have hlt0 : pre.length + k < s.size := by omega
      have ht := HT.out k hkl hlt0
      have HP := Aside0.mk (tw_step (p := nmB) l k hkl hk)
      have HQ := Aside0.mk (tw_stop (p := nmB) l k hk)
      generalize hc : l[k] = c at ht HP
      have hz1 : ((pre.length + k : Nat) : Int) < ((pre.length + l.length : Nat) : Int) := by omega
      have hz2 : (0 : Int) ≤ ((pre.length + k : Nat) : Int) := by omega
      have HC := Aside0.mk fun W => number1_so c W
      by_cases hp : nmB c = true
      · rw [hp] at HC
        have HR := Aside0.mk (HP.out hp)
        clear hp HP HQ hc HS
        go_wp2_with (go_at_call 39; (with_reducible refine (HC.out _).mono ?_); rintro e w1 ⟨rfl, hb1⟩; have HB1 := Aside0.mk (below_step HB.out hb1); clear hb1)
        go_roundw
        case rel => exact ⟨k + 1, HR.out, by congr 1 <;> (unfold wrap64; omega), HB1⟩
        case measure =>
          simp only [intOf]
          omega
      · have HE := Aside0.mk (HQ.out (fun _ => by rw [hc]; exact Bool.eq_false_iff.2 hp))
        rw [Bool.eq_false_iff.2 hp] at HC
        clear hp HP HQ hc HS
        go_wp2_with (go_at_call 39; (with_reducible refine (HC.out _).mono ?_); rintro e w1 ⟨rfl, hb1⟩; have HB1 := Aside0.mk (below_step HB.out hb1); clear hb1)
        have p0 := (blk_cell (blk_drew (blk_below HI.out HB1.out)) 0).trans (show _ = some (Value.string s) from rfl)
        have p1 := (blk_cell (blk_drew (blk_below HI.out HB1.out)) 1).trans (show _ = some (Value.int .i64 (pre.length : Int)) from rfl)
        have p2 := (blk_cell (blk_drew (blk_below Hb.out HB1.out)) 0).trans (show _ = some (ptV g) from rfl)
        have z0 : (0 : Int) ≤ (pre.length : Int) := by omega
        have z1 : (pre.length : Int) ≤ (pre.length : Int) + (k : Int) := by omega
        have z2 : (pre.length : Int) + (k : Int) ≤ (s.size : Int) := by omega
        have z3 : k ≤ l.length := by omega
        clear q0 q1 qb hsz
        refine start_ (n := 11) (S := fun w' => w'.cell? ⟨g, 0, none⟩ = some (.string s) ∧ w'.cell? ⟨g, 1, none⟩ = some (.int .i64 (pre.length : Int)) ∧ w'.cell? ⟨b, 0, none⟩ = some (ptV g)) (ds := []) #[false, false, false, false, false, false, false, false, false, false, false] (by kernel_rfl) rfl rfl ⟨p0, p1, p2⟩ (fun hHeld => ?_)
        refine with_tabW row4.tab4 row4.bits4 (fun HT_ HW_ => ?_)
        refine pureI 8 (some 36) HT_ rfl rfl (by kernel_rfl) (by rfl) (fun _ => by go_simp; with_reducible rfl) (by simp only [Act.put, List.setIfInBounds_toArray, List.set_cons_zero, List.set_cons_succ]; rfl) ?_
        refine takeI 0 (some 28) HT_ HW_ rfl rfl (by kernel_rfl) (by rfl) (by rintro w' ⟨s0, s1, s2⟩; go_simp; with_reducible rfl) hHeld (by simp only [Act.put, List.setIfInBounds_toArray, List.set_cons_zero, List.set_cons_succ]; rfl) ?_
        refine pureI 1 (some 29) HT_ rfl rfl (by kernel_rfl) (by rfl) (fun _ => by go_simp; with_reducible rfl) (by simp only [Act.put, List.setIfInBounds_toArray, List.set_cons_zero, List.set_cons_succ]; rfl) ?_
        refine pureI 2 (some 30) HT_ rfl rfl (by kernel_rfl) (by rfl) (fun _ => by go_simp; with_reducible rfl) (by simp only [Act.put, List.setIfInBounds_toArray, List.set_cons_zero, List.set_cons_succ]; rfl) ?_
        refine takeI 3 (some 31) HT_ HW_ rfl rfl (by kernel_rfl) (by rfl) (by rintro w' ⟨s0, s1, s2⟩; go_simp; with_reducible rfl) hHeld (by simp only [Act.put, List.setIfInBounds_toArray, List.set_cons_zero, List.set_cons_succ]; rfl) ?_
        refine takeI 4 (some 32) HT_ HW_ rfl rfl (by kernel_rfl) (by rfl) (by rintro w' ⟨s0, s1, s2⟩; go_simp; with_reducible rfl) hHeld (by simp only [Act.put, List.setIfInBounds_toArray, List.set_cons_zero, List.set_cons_succ]; rfl) ?_
        refine pureI 5 (some 33) HT_ rfl rfl (by kernel_rfl) (by rfl) (fun _ => by go_simp; with_reducible rfl) (by simp only [Act.put, List.setIfInBounds_toArray, List.set_cons_zero, List.set_cons_succ]; rfl) ?_
        refine pureI 6 (some 34) HT_ rfl rfl (by kernel_rfl) (by rfl) (fun _ => by go_simp; with_reducible rfl) (by simp only [Act.put, List.setIfInBounds_toArray, List.set_cons_zero, List.set_cons_succ]; rfl) ?_
        refine takeI 7 (some 35) HT_ HW_ rfl rfl (by kernel_rfl) (by rfl) (by rintro w' ⟨s0, s1, s2⟩; go_simp; with_reducible rfl) hHeld (by simp only [Act.put, List.setIfInBounds_toArray, List.set_cons_zero, List.set_cons_succ]; rfl) ?_
        refine pureI 9 (some 37) HT_ rfl rfl (by kernel_rfl) (by rfl) (fun _ => by go_simp; with_reducible rfl) (by simp only [Act.put, List.setIfInBounds_toArray, List.set_cons_zero, List.set_cons_succ]; rfl) ?_
        refine pureI 10 (some 3) HT_ rfl rfl (by kernel_rfl) (by rfl) (fun _ => by go_simp; with_reducible rfl) (by simp only [Act.put, List.setIfInBounds_toArray, List.set_cons_zero, List.set_cons_succ]; rfl) ?_
        refine done_ (done_of HT_.out (by kernel_rfl)) ?_
        go_wp2
        go_ret
        rw [HE.out]
        first | exact ⟨by rw [← HX.out k (by omega)]; congr 3 <;> omega, pw_below_drewN HB1.out _⟩ | exact ⟨by rw [← HX.out k (by omega)]; congr 3 <;> omega, below_drew1 HB1.out⟩
    · have hd : decide (((pre.length + k : Nat) : Int) < ((pre.length + l.length : Nat) : Int)) = false := decide_eq_false (by omega)
      have hz1 : ¬((pre.length + k : Nat) : Int) < ((pre.length + l.length : Nat) : Int) := by omega
      have HE := Aside0.mk (tw_stop (p := nmB) l k hk (fun h => absurd h hkl))
      clear HS
      go_wp2
      have p0 := (blk_cell (blk_drew (blk_below HI.out HB.out)) 0).trans (show _ = some (Value.string s) from rfl)
      have p1 := (blk_cell (blk_drew (blk_below HI.out HB.out)) 1).trans (show _ = some (Value.int .i64 (pre.length : Int)) from rfl)
      have p2 := (blk_cell (blk_drew (blk_below Hb.out HB.out)) 0).trans (show _ = some (ptV g) from rfl)
      have z0 : (0 : Int) ≤ (pre.length : Int) := by omega
      have z1 : (pre.length : Int) ≤ (pre.length : Int) + (k : Int) := by omega
      have z2 : (pre.length : Int) + (k : Int) ≤ (s.size : Int) := by omega
      have z3 : k ≤ l.length := by omega
      clear q0 q1 qb hsz
      refine start_ (n := 11) (S := fun w' => w'.cell? ⟨g, 0, none⟩ = some (.string s) ∧ w'.cell? ⟨g, 1, none⟩ = some (.int .i64 (pre.length : Int)) ∧ w'.cell? ⟨b, 0, none⟩ = some (ptV g)) (ds := []) #[false, false, false, false, false, false, false, false, false, false, false] (by kernel_rfl) rfl rfl ⟨p0, p1, p2⟩ (fun hHeld => ?_)
      refine with_tabW row4.tab4 row4.bits4 (fun HT_ HW_ => ?_)
      refine pureI 8 (some 36) HT_ rfl rfl (by kernel_rfl) (by rfl) (fun _ => by go_simp; with_reducible rfl) (by simp only [Act.put, List.setIfInBounds_toArray, List.set_cons_zero, List.set_cons_succ]; rfl) ?_
      refine takeI 0 (some 28) HT_ HW_ rfl rfl (by kernel_rfl) (by rfl) (by rintro w' ⟨s0, s1, s2⟩; go_simp; with_reducible rfl) hHeld (by simp only [Act.put, List.setIfInBounds_toArray, List.set_cons_zero, List.set_cons_succ]; rfl) ?_
      refine pureI 1 (some 29) HT_ rfl rfl (by kernel_rfl) (by rfl) (fun _ => by go_simp; with_reducible rfl) (by simp only [Act.put, List.setIfInBounds_toArray, List.set_cons_zero, List.set_cons_succ]; rfl) ?_
      refine pureI 2 (some 30) HT_ rfl rfl (by kernel_rfl) (by rfl) (fun _ => by go_simp; with_reducible rfl) (by simp only [Act.put, List.setIfInBounds_toArray, List.set_cons_zero, List.set_cons_succ]; rfl) ?_
      refine takeI 3 (some 31) HT_ HW_ rfl rfl (by kernel_rfl) (by rfl) (by rintro w' ⟨s0, s1, s2⟩; go_simp; with_reducible rfl) hHeld (by simp only [Act.put, List.setIfInBounds_toArray, List.set_cons_zero, List.set_cons_succ]; rfl) ?_
      refine takeI 4 (some 32) HT_ HW_ rfl rfl (by kernel_rfl) (by rfl) (by rintro w' ⟨s0, s1, s2⟩; go_simp; with_reducible rfl) hHeld (by simp only [Act.put, List.setIfInBounds_toArray, List.set_cons_zero, List.set_cons_succ]; rfl) ?_
      refine pureI 5 (some 33) HT_ rfl rfl (by kernel_rfl) (by rfl) (fun _ => by go_simp; with_reducible rfl) (by simp only [Act.put, List.setIfInBounds_toArray, List.set_cons_zero, List.set_cons_succ]; rfl) ?_
      refine pureI 6 (some 34) HT_ rfl rfl (by kernel_rfl) (by rfl) (fun _ => by go_simp; with_reducible rfl) (by simp only [Act.put, List.setIfInBounds_toArray, List.set_cons_zero, List.set_cons_succ]; rfl) ?_
      refine takeI 7 (some 35) HT_ HW_ rfl rfl (by kernel_rfl) (by rfl) (by rintro w' ⟨s0, s1, s2⟩; go_simp; with_reducible rfl) hHeld (by simp only [Act.put, List.setIfInBounds_toArray, List.set_cons_zero, List.set_cons_succ]; rfl) ?_
      refine pureI 9 (some 37) HT_ rfl rfl (by kernel_rfl) (by rfl) (fun _ => by go_simp; with_reducible rfl) (by simp only [Act.put, List.setIfInBounds_toArray, List.set_cons_zero, List.set_cons_succ]; rfl) ?_
      refine pureI 10 (some 3) HT_ rfl rfl (by kernel_rfl) (by rfl) (fun _ => by go_simp; with_reducible rfl) (by simp only [Act.put, List.setIfInBounds_toArray, List.set_cons_zero, List.set_cons_succ]; rfl) ?_
      refine done_ (done_of HT_.out (by kernel_rfl)) ?_
      go_wp2
      go_ret
      rw [HE.out]
      first | exact ⟨by rw [← HX.out k (by omega)]; congr 3 <;> omega, pw_below_drewN HB.out _⟩ | exact ⟨by rw [← HX.out k (by omega)]; congr 3 <;> omega, below_drew1 HB.out⟩
set_option maxHeartbeats 4000000 in
set_option maxRecDepth 100000 in
theorem row1_wrd (pre l : List UInt8) (w0 w : World) (g b : Nat) (e0 : Int) (hlen : (pre ++ l).length ≤ 1024) (hI : IsSc w0 w g (bl (pre ++ l)) (pre.length : Int) e0) (hb : w.heap[b]? = some (.cells #[ptV g] 46 (0, 0))) :
    Calls Tryz.prog 53 #[.func (.func 44) #[] #[], ptV b] w fun e w' => e = .returned (.string (bl (l.takeWhile wdB))) ∧ Below w.heap.size w w' := by
  rw [List.length_append] at hlen
  have hsz : ((bl (pre ++ l)).size : Int) = ((pre.length + l.length : Nat) : Int) := by rw [bl_size, List.length_append]
  have hbt := fun k h hh => get_at pre l k h hh
  have hs0 : (bl (pre ++ l)).size = pre.length + l.length := by rw [bl_size, List.length_append]
  have hex := fun k h => ext_at pre l k h
  obtain ⟨hI, _⟩ := hI
  generalize bl (pre ++ l) = s at hI hsz hs0 hbt hex
  have q0 := (blk_cell hI 0).trans (show _ = some (Value.string s) from rfl)
  have q1 := (blk_cell hI 1).trans (show _ = some (Value.int .i64 (pre.length : Int)) from rfl)
  have qb := (blk_cell hb 0).trans (show _ = some (ptV g) from rfl)
  have HI := Aside0.mk hI
  have Hb := Aside0.mk hb
  have HX := Aside0.mk hex
  have HT := Aside0.mk hbt
  clear hI hb hex hbt
  go_enter Tryz.func53, Tryz.ntmps53
  go_wp2
  go_loopw [4] (fun v wr => ∃ k : Nat, k ≤ (l.takeWhile wdB).length ∧ v = .int .i64 ((pre.length + k : Nat) : Int) ∧ Aside0 (Below w.heap.size w wr)) (fun v _ => pre.length + l.length - (intOf v).toNat)
  case atStart => exact ⟨0, Nat.zero_le _, rfl, ⟨Below.refl _ _⟩⟩
  case round =>
    clear q0 q1 qb
    obtain ⟨k, hk, rfl, HB⟩ := hrel
    have hle := takeWhile_len (p := wdB) l
    have q0 := (blk_cell (blk_below HI.out HB.out) 0).trans (show _ = some (Value.string s) from rfl)
    have q1 := (blk_cell (blk_below HI.out HB.out) 1).trans (show _ = some (Value.int .i64 (pre.length : Int)) from rfl)
    have qb := (blk_cell (blk_below Hb.out HB.out) 0).trans (show _ = some (ptV g) from rfl)
    have HS := Aside0.mk fun c W => word1_so c W
    by_cases hkl : k < l.length
    · have hd : decide (((pre.length + k : Nat) : Int) < ((pre.length + l.length : Nat) : Int)) = true := decide_eq_true (by omega)
      have hlt0 : pre.length + k < s.size := by omega
      have ht := HT.out k hkl hlt0
      have HP := Aside0.mk (tw_step (p := wdB) l k hkl hk)
      have HQ := Aside0.mk (tw_stop (p := wdB) l k hk)
      generalize hc : l[k] = c at ht HP
      have hz1 : ((pre.length + k : Nat) : Int) < ((pre.length + l.length : Nat) : Int) := by omega
      have hz2 : (0 : Int) ≤ ((pre.length + k : Nat) : Int) := by omega
      have HC := Aside0.mk fun W => word1_so c W
      by_cases hp : wdB c = true
      · rw [hp] at HC
        have HR := Aside0.mk (HP.out hp)
        clear hp HP HQ hc HS
        go_wp2_with (go_at_call 44; (with_reducible refine (HC.out _).mono ?_); rintro e w1 ⟨rfl, hb1⟩; have HB1 := Aside0.mk (below_step HB.out hb1); clear hb1)
        go_roundw
        case rel => exact ⟨k + 1, HR.out, by congr 1 <;> (unfold wrap64; omega), HB1⟩
        case measure =>
          simp only [intOf]
          omega
      · have HE := Aside0.mk (HQ.out (fun _ => by rw [hc]; exact Bool.eq_false_iff.2 hp))
        rw [Bool.eq_false_iff.2 hp] at HC
        clear hp HP HQ hc HS
        go_wp2_with (go_at_call 44; (with_reducible refine (HC.out _).mono ?_); rintro e w1 ⟨rfl, hb1⟩; have HB1 := Aside0.mk (below_step HB.out hb1); clear hb1)
        have p0 := (blk_cell (blk_drew (blk_below HI.out HB1.out)) 0).trans (show _ = some (Value.string s) from rfl)
        have p1 := (blk_cell (blk_drew (blk_below HI.out HB1.out)) 1).trans (show _ = some (Value.int .i64 (pre.length : Int)) from rfl)
        have p2 := (blk_cell (blk_drew (blk_below Hb.out HB1.out)) 0).trans (show _ = some (ptV g) from rfl)
        have z0 : (0 : Int) ≤ (pre.length : Int) := by omega
        have z1 : (pre.length : Int) ≤ (pre.length : Int) + (k : Int) := by omega
        have z2 : (pre.length : Int) + (k : Int) ≤ (s.size : Int) := by omega
        have z3 : k ≤ l.length := by omega
        clear q0 q1 qb hsz
        refine start_ (n := 11) (S := fun w' => w'.cell? ⟨g, 0, none⟩ = some (.string s) ∧ w'.cell? ⟨g, 1, none⟩ = some (.int .i64 (pre.length : Int)) ∧ w'.cell? ⟨b, 0, none⟩ = some (ptV g)) (ds := []) #[false, false, false, false, false, false, false, false, false, false, false] (by kernel_rfl) rfl rfl ⟨p0, p1, p2⟩ (fun hHeld => ?_)
        refine with_tabW row4.tab4 row4.bits4 (fun HT_ HW_ => ?_)
        refine pureI 8 (some 36) HT_ rfl rfl (by kernel_rfl) (by rfl) (fun _ => by go_simp; with_reducible rfl) (by simp only [Act.put, List.setIfInBounds_toArray, List.set_cons_zero, List.set_cons_succ]; rfl) ?_
        refine takeI 0 (some 28) HT_ HW_ rfl rfl (by kernel_rfl) (by rfl) (by rintro w' ⟨s0, s1, s2⟩; go_simp; with_reducible rfl) hHeld (by simp only [Act.put, List.setIfInBounds_toArray, List.set_cons_zero, List.set_cons_succ]; rfl) ?_
        refine pureI 1 (some 29) HT_ rfl rfl (by kernel_rfl) (by rfl) (fun _ => by go_simp; with_reducible rfl) (by simp only [Act.put, List.setIfInBounds_toArray, List.set_cons_zero, List.set_cons_succ]; rfl) ?_
        refine pureI 2 (some 30) HT_ rfl rfl (by kernel_rfl) (by rfl) (fun _ => by go_simp; with_reducible rfl) (by simp only [Act.put, List.setIfInBounds_toArray, List.set_cons_zero, List.set_cons_succ]; rfl) ?_
        refine takeI 3 (some 31) HT_ HW_ rfl rfl (by kernel_rfl) (by rfl) (by rintro w' ⟨s0, s1, s2⟩; go_simp; with_reducible rfl) hHeld (by simp only [Act.put, List.setIfInBounds_toArray, List.set_cons_zero, List.set_cons_succ]; rfl) ?_
        refine takeI 4 (some 32) HT_ HW_ rfl rfl (by kernel_rfl) (by rfl) (by rintro w' ⟨s0, s1, s2⟩; go_simp; with_reducible rfl) hHeld (by simp only [Act.put, List.setIfInBounds_toArray, List.set_cons_zero, List.set_cons_succ]; rfl) ?_
        refine pureI 5 (some 33) HT_ rfl rfl (by kernel_rfl) (by rfl) (fun _ => by go_simp; with_reducible rfl) (by simp only [Act.put, List.setIfInBounds_toArray, List.set_cons_zero, List.set_cons_succ]; rfl) ?_
        refine pureI 6 (some 34) HT_ rfl rfl (by kernel_rfl) (by rfl) (fun _ => by go_simp; with_reducible rfl) (by simp only [Act.put, List.setIfInBounds_toArray, List.set_cons_zero, List.set_cons_succ]; rfl) ?_
        refine takeI 7 (some 35) HT_ HW_ rfl rfl (by kernel_rfl) (by rfl) (by rintro w' ⟨s0, s1, s2⟩; go_simp; with_reducible rfl) hHeld (by simp only [Act.put, List.setIfInBounds_toArray, List.set_cons_zero, List.set_cons_succ]; rfl) ?_
        refine pureI 9 (some 37) HT_ rfl rfl (by kernel_rfl) (by rfl) (fun _ => by go_simp; with_reducible rfl) (by simp only [Act.put, List.setIfInBounds_toArray, List.set_cons_zero, List.set_cons_succ]; rfl) ?_
        refine pureI 10 (some 3) HT_ rfl rfl (by kernel_rfl) (by rfl) (fun _ => by go_simp; with_reducible rfl) (by simp only [Act.put, List.setIfInBounds_toArray, List.set_cons_zero, List.set_cons_succ]; rfl) ?_
        refine done_ (done_of HT_.out (by kernel_rfl)) ?_
        go_wp2
        go_ret
        rw [HE.out]
        first | exact ⟨by rw [← HX.out k (by omega)]; congr 3 <;> omega, pw_below_drewN HB1.out _⟩ | exact ⟨by rw [← HX.out k (by omega)]; congr 3 <;> omega, below_drew1 HB1.out⟩
    · have hd : decide (((pre.length + k : Nat) : Int) < ((pre.length + l.length : Nat) : Int)) = false := decide_eq_false (by omega)
      have hz1 : ¬((pre.length + k : Nat) : Int) < ((pre.length + l.length : Nat) : Int) := by omega
      have HE := Aside0.mk (tw_stop (p := wdB) l k hk (fun h => absurd h hkl))
      clear HS
      go_wp2
      have p0 := (blk_cell (blk_drew (blk_below HI.out HB.out)) 0).trans (show _ = some (Value.string s) from rfl)
      have p1 := (blk_cell (blk_drew (blk_below HI.out HB.out)) 1).trans (show _ = some (Value.int .i64 (pre.length : Int)) from rfl)
      have p2 := (blk_cell (blk_drew (blk_below Hb.out HB.out)) 0).trans (show _ = some (ptV g) from rfl)
      have z0 : (0 : Int) ≤ (pre.length : Int) := by omega
      have z1 : (pre.length : Int) ≤ (pre.length : Int) + (k : Int) := by omega
      have z2 : (pre.length : Int) + (k : Int) ≤ (s.size : Int) := by omega
      have z3 : k ≤ l.length := by omega
      clear q0 q1 qb hsz
      refine start_ (n := 11) (S := fun w' => w'.cell? ⟨g, 0, none⟩ = some (.string s) ∧ w'.cell? ⟨g, 1, none⟩ = some (.int .i64 (pre.length : Int)) ∧ w'.cell? ⟨b, 0, none⟩ = some (ptV g)) (ds := []) #[false, false, false, false, false, false, false, false, false, false, false] (by kernel_rfl) rfl rfl ⟨p0, p1, p2⟩ (fun hHeld => ?_)
      refine with_tabW row4.tab4 row4.bits4 (fun HT_ HW_ => ?_)
      refine pureI 8 (some 36) HT_ rfl rfl (by kernel_rfl) (by rfl) (fun _ => by go_simp; with_reducible rfl) (by simp only [Act.put, List.setIfInBounds_toArray, List.set_cons_zero, List.set_cons_succ]; rfl) ?_
      refine takeI 0 (some 28) HT_ HW_ rfl rfl (by kernel_rfl) (by rfl) (by rintro w' ⟨s0, s1, s2⟩; go_simp; with_reducible rfl) hHeld (by simp only [Act.put, List.setIfInBounds_toArray, List.set_cons_zero, List.set_cons_succ]; rfl) ?_
      refine pureI 1 (some 29) HT_ rfl rfl (by kernel_rfl) (by rfl) (fun _ => by go_simp; with_reducible rfl) (by simp only [Act.put, List.setIfInBounds_toArray, List.set_cons_zero, List.set_cons_succ]; rfl) ?_
      refine pureI 2 (some 30) HT_ rfl rfl (by kernel_rfl) (by rfl) (fun _ => by go_simp; with_reducible rfl) (by simp only [Act.put, List.setIfInBounds_toArray, List.set_cons_zero, List.set_cons_succ]; rfl) ?_
      refine takeI 3 (some 31) HT_ HW_ rfl rfl (by kernel_rfl) (by rfl) (by rintro w' ⟨s0, s1, s2⟩; go_simp; with_reducible rfl) hHeld (by simp only [Act.put, List.setIfInBounds_toArray, List.set_cons_zero, List.set_cons_succ]; rfl) ?_
      refine takeI 4 (some 32) HT_ HW_ rfl rfl (by kernel_rfl) (by rfl) (by rintro w' ⟨s0, s1, s2⟩; go_simp; with_reducible rfl) hHeld (by simp only [Act.put, List.setIfInBounds_toArray, List.set_cons_zero, List.set_cons_succ]; rfl) ?_
      refine pureI 5 (some 33) HT_ rfl rfl (by kernel_rfl) (by rfl) (fun _ => by go_simp; with_reducible rfl) (by simp only [Act.put, List.setIfInBounds_toArray, List.set_cons_zero, List.set_cons_succ]; rfl) ?_
      refine pureI 6 (some 34) HT_ rfl rfl (by kernel_rfl) (by rfl) (fun _ => by go_simp; with_reducible rfl) (by simp only [Act.put, List.setIfInBounds_toArray, List.set_cons_zero, List.set_cons_succ]; rfl) ?_
      refine takeI 7 (some 35) HT_ HW_ rfl rfl (by kernel_rfl) (by rfl) (by rintro w' ⟨s0, s1, s2⟩; go_simp; with_reducible rfl) hHeld (by simp only [Act.put, List.setIfInBounds_toArray, List.set_cons_zero, List.set_cons_succ]; rfl) ?_
      refine pureI 9 (some 37) HT_ rfl rfl (by kernel_rfl) (by rfl) (fun _ => by go_simp; with_reducible rfl) (by simp only [Act.put, List.setIfInBounds_toArray, List.set_cons_zero, List.set_cons_succ]; rfl) ?_
      refine pureI 10 (some 3) HT_ rfl rfl (by kernel_rfl) (by rfl) (fun _ => by go_simp; with_reducible rfl) (by simp only [Act.put, List.setIfInBounds_toArray, List.set_cons_zero, List.set_cons_succ]; rfl) ?_
      refine done_ (done_of HT_.out (by kernel_rfl)) ?_
      go_wp2
      go_ret
      rw [HE.out]
      first | exact ⟨by rw [← HX.out k (by omega)]; congr 3 <;> omega, pw_below_drewN HB.out _⟩ | exact ⟨by rw [← HX.out k (by omega)]; congr 3 <;> omega, below_drew1 HB.out⟩
end Go.Proofs.YtmppnobldhhpjaaGreatDoor.Pr
end
section
namespace Go.Proofs.YtmppnobldhhpjaaGreatDoor.Pr
set_option linter.unusedVariables false
set_option linter.unusedSimpArgs false
open Go.RowKit Go.Proofs.YtmppnobldhhpjaaGreatDoorW.PrintWords Go.Proofs.YtmppnobldhhpjaaGreatDoorW.PrintLast Go.Proofs.YtmppnobldhhpjaaGreatDoorW.PrintMore
abbrev TkA (t : Tk) : Array Value := #[.int .i64 t.f0, .int .i64 t.f1.f0, .int .i64 t.f1.f1, .string t.f1.f2, .bool t.f1.f3, .int .i64 t.f1.f4, .int .i64 t.f2.f0.f0, .int .i64 t.f2.f0.f1, .bool t.f2.f1, .bool t.f2.f2, .string t.f3, .int .i64 t.f4]
abbrev ZTk : Array Value := #[.int .i64 0, .int .i64 0, .int .i64 0, .string ⟨#[]⟩, .bool false, .int .i64 0, .int .i64 0, .int .i64 0, .bool false, .bool false, .string ⟨#[]⟩, .int .i64 0]
def OneOut (s : ByteArray) (i : Int) (r : Tk × Nat × Int) (w0 : World) (g : Nat) (w : World) (e : Ending) (w' : World) : Prop :=
  ∃ (t : Tk) (n : Int), e = .returned (.tuple #[.agg (TkA t), .int .i64 n]) ∧ (r.2.2 = 0 → t = r.1 ∧ n = (r.2.1 : Int)) ∧ IsSc w0 w' g s i r.2.2 ∧ Below w0.heap.size w0 w' ∧ KeepBut w w' g none
theorem keepRow {w W : World} {g b : Nat} (h : KeepBut w W g none) (hb : w.heap.size ≤ b) (cs : Array Value) : KeepBut w (W.setRow b cs) g none :=
  ⟨by simpa using h.1, fun k hk hg hr => (setRow_other W b k cs (by omega)).trans (h.2 k hk hg hr)⟩
theorem low {w0 w W : World} (h : Below w0.heap.size w0 w) (hb : Below w.heap.size w W) : Below w0.heap.size w0 W := h.trans (hb.mono h.size)
theorem numT7_err (l : List UInt8) : (numT7 l).2.2 = (numL (l.takeWhile nmB)).2 := by
  unfold numT7
  simp only
  split
  · rename_i h; rw [h]
  · rfl
theorem numT7_ok (l : List UInt8) (h : (numT7 l).2.2 = 0) : (numT7 l).1 = tkV 1 (numL (l.takeWhile nmB)).1 [] false 0 ∧ (numT7 l).2.1 = (l.takeWhile nmB).length := by
  rw [numT7_err] at h
  unfold numT7
  simp only
  rw [if_pos h]
  exact ⟨rfl, rfl⟩
set_option maxHeartbeats 8000000 in
set_option maxRecDepth 100000 in
theorem number_calls (pre l : List UInt8) (w0 w : World) (g : Nat) (hlen : (pre ++ l).length ≤ 1024) (hI : IsSc w0 w g (bl (pre ++ l)) (pre.length : Int) 0) (hB : Below w0.heap.size w0 w) :
    Calls Tryz.prog 26 #[ptV g] w (OneOut (bl (pre ++ l)) (pre.length : Int) (numT7 l) w0 g w) := by
  have HW := Aside0.mk hlen
  have HE := Aside0.mk (numT7_err l)
  have HO := Aside0.mk (numT7_ok l)
  have HP := Aside0.mk (num_Parse_eq 1 (Nat.le_refl _) (l.takeWhile nmB))
  have hgl := blk_lt hI.1
  have hne1 : w.heap.size ≠ g := by omega
  have hne2 : g ≠ w.heap.size := by omega
  have HR := Aside0.mk (fun W (h : IsSc w0 W g (bl (pre ++ l)) (pre.length : Int) 0) (b : Nat) hb => row1_num pre l w0 W g b 0 HW.out h hb)
  obtain ⟨v, er, hv⟩ : ∃ v er, numL (l.takeWhile nmB) = (v, er) := ⟨_, _, rfl⟩
  rw [hv] at HE HO HP
  clear hv
  have hsz : (bl (l.takeWhile nmB)).size = (l.takeWhile nmB).length := bl_size _
  generalize numT7 l = r at HE HO ⊢
  generalize bl (pre ++ l) = s at hI HR ⊢
  generalize bl (l.takeWhile nmB) = x at HP HR hsz
  generalize (l.takeWhile nmB).length = n at hsz HO
  have HI := Aside0.mk hI
  have HB := Aside0.mk hB
  clear hI hB hlen
  go_enter Tryz.func26, Tryz.ntmps26
  go_wp2_with (first
    | (go_at_call 38; (with_reducible refine (row_calls g _).mono ?_); rintro e w1 ⟨rfl, rfl⟩)
    | (go_at_call 53; (with_reducible refine (HR.out _ ((HI.out.alloc _).alloc _) _ (newBlk2 w _ _)).mono ?_); rintro e w1 ⟨rfl, hb⟩; have HB1 := Aside0.mk (below_step (bel2 w _ _) hb); have S1 := Aside0.mk (((HI.out.alloc _).alloc _).below hb); have T1 := Aside0.mk (blk_below (blk_alloc (newBlk w _) _) hb); clear hb)
    | (go_at_call 40; refine (num_Parse.calls 1 _ _ _ _ HP.out).mono ?_; rintro e w2 ⟨rfl, hb⟩; have HB2 := Aside0.mk (below_step HB1.out hb); have S2 := Aside0.mk (S1.out.below hb); have T2 := Aside0.mk (blk_below T1.out hb); clear hb; have hc := fun i => blk_cell S2.out.1 i; have hf := fun i => blk_frozen S2.out.1 i)
    | ((with_reducible refine gate_store (t := 45) (p := 2) (v := .tmp 21) rfl ?_); refine wpRowSt rfl 45 (.tmp 2) (.tmp 21) rfl (w.heap.size) (TkA (tkV 1 v [] false 0)) rfl rfl 45 _ (blk_far (p := ⟨g, 2, none⟩) T2.out hne1 _) (by kernel_rfl) rfl rfl ?_))
  refine bodyPost_ret (results_ct rfl _ _ (w.heap.size) 45 (TkA (tkV 1 v [] false 0)) (0, 0) _ rfl (setRow_heap _ _ _ _ _ _ (blk_far (p := ⟨g, 2, none⟩) T2.out hne1 _)) Tryz.underlying45 rfl (by kernel_rfl)) rfl ?_
  refine ⟨_, _, rfl, fun h => ?_, ?_, ?_, ?_⟩
  · obtain ⟨h1, h2⟩ := HO.out h
    exact ⟨h1.symm, by rw [h2]⟩
  · rw [HE.out]
    exact ⟨rowOther _ (blk_put S2.out.1 2 _ rfl) hne2, HI.out.2⟩
  · exact rowBelow ((low HB.out HB2.out).setCell (p := ⟨g, 2, none⟩) HI.out.2 _) HB.out.size _
  · exact keepRow ((KeepBut.of_below HB2.out g none).set_ 2 _) (Nat.le_refl _) _
end Go.Proofs.YtmppnobldhhpjaaGreatDoor.Pr
end
