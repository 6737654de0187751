/-
  Lemmas for the law FAllFTable.
-/
import Derived.Test.YtopdjokncbpghaaGreatDoorSFAllFTable39
import Derived.Laws.Cover1
set_option maxHeartbeats 8000000
set_option maxRecDepth 100000
set_option linter.unusedVariables false
set_option linter.unusedSimpArgs false
section
namespace Go.Proofs.YtopdjokncbpghaaGreatDoor.Pr
open Go.RowKit Go.Proofs.YtopdjokncbpghaaGreatDoorW.PrintWords Go.Proofs.YtopdjokncbpghaaGreatDoorW.PrintLast Go.Proofs.YtopdjokncbpghaaGreatDoorW.PrintMore
def ftab4.T4 : Bool × List (List Nat × List Nat) := (true, [([], []), ([0], [0]), ([], []), ([2], [2]), ([3], [3]), ([1, 4], [1, 4]), ([5], [5]), ([], []), ([7], [7]), ([], []), ([9], [9]), ([10], [10]), ([8, 11], [8, 11]), ([12], [12]), ([6, 0, 1, 2, 3, 4, 5, 6], [6]), ([13, 14, 0, 1, 2, 3, 4, 5, 6, 7, 8, 9, 10, 11, 12, 13, 14], [13])])
def ftab4.B4 : List Nat := [0, 1, 0, 4, 12, 31, 63, 0, 128, 0, 512, 1536, 3968, 8064, 127, 32767]
theorem ftab4.tab4 : rtab .any (opsOf Tryz.f9 4) = ftab4.T4 := by kernel_rfl
theorem ftab4.bits4 : waitsOk ftab4.T4.2 ftab4.B4 = true := by kernel_rfl
def ftab6.T6 : Bool × List (List Nat × List Nat) := (true, [([], []), ([0], [0]), ([1], [1]), ([2], [2]), ([3, 2], [2, 3]), ([2], [2]), ([2], [2]), ([5, 6, 2], [2, 5, 6]), ([7, 2], [2, 7]), ([8, 2], [2, 8]), ([4, 9, 2], [2, 4, 9]), ([2, 10], [2, 10]), ([11, 2], [11]), ([12], [12]), ([13, 12], [12, 13]), ([12], [12]), ([15, 12], [12, 15]), ([14, 16, 12], [12, 14, 16]), ([12, 17], [12, 17]), ([18, 12], [18]), ([19], [19]), ([20, 19], [19, 20]), ([21, 19], [19, 21]), ([22, 19, 19], [19, 22]), ([23], [23]), ([24, 23], [23, 24]), ([25, 23], [23, 25]), ([26, 23], [23, 26]), ([27, 23, 23], [23, 27]), ([28], [28]), ([29, 28], [28, 29]), ([30, 28], [28, 30]), ([28], [28]), ([32, 28], [28, 32]), ([31, 33, 28], [28, 31, 33]), ([28, 34, 23], [23, 28, 34]), ([23, 35, 19], [19, 23, 35]), ([19, 36], [19, 36])])
def ftab6.B6 : List Nat := [0, 1, 3, 7, 15, 7, 7, 103, 231, 487, 1023, 2047, 4095, 8191, 16383, 8191, 40959, 131071, 262143, 524287, 1048575, 2097151, 4194303, 8388607, 16777215, 33554431, 67108863, 134217727, 268435455, 536870911, 1073741823, 2147483647, 536870911, 4831838207, 17179869183, 34359738367, 68719476735, 137438953471]
theorem ftab6.tab6 : rtab .any (opsOf Tryz.f9 6) = ftab6.T6 := by kernel_rfl
theorem ftab6.bits6 : waitsOk ftab6.T6.2 ftab6.B6 = true := by kernel_rfl
def ftab8.T8 : Bool × List (List Nat × List Nat) := (true, [([], []), ([], []), ([0, 1], [0, 1]), ([], []), ([], []), ([3, 4], [3, 4]), ([5], [5]), ([6], [6]), ([], []), ([], []), ([8, 9], [8, 9]), ([10], [10]), ([11], [11]), ([7, 12], [7, 12]), ([2, 13], [2, 13]), ([14], [14]), ([15, 15], [15]), ([15, 16], [15, 16]), ([17, 16, 0, 1, 2, 3, 4, 5, 6, 7, 8, 9, 10, 11, 12, 13, 14, 15, 16, 17], [17])])
def ftab8.B8 : List Nat := [0, 0, 3, 0, 0, 24, 56, 120, 0, 0, 768, 1792, 3840, 8184, 16383, 32767, 65535, 131071, 262143]
theorem ftab8.tab8 : rtab .any (opsOf Tryz.f9 8) = ftab8.T8 := by kernel_rfl
theorem ftab8.bits8 : waitsOk ftab8.T8.2 ftab8.B8 = true := by kernel_rfl
theorem ix_facts (k : Int) {N : Nat} (hN : 0 < N) (hmax : N ≤ 1000) : ((uint_ix k N : Nat) : Int) < (N : Int) ∧ IntKind.i64.wrap ((uint_ix k N : Nat) : Int) = ((uint_ix k N : Nat) : Int) ∧ wrap64 ((uint_ix k N : Nat) : Int) = ((uint_ix k N : Nat) : Int) := by
 have h := uint_lt k (n := N) hN
 generalize uint_ix k N = x at h
 refine ⟨by omega, i64w (by omega), ?_⟩
 unfold wrap64
 omega
theorem len_facts {N : Nat} (h : 80 ≤ N) : decide ((N : Int) < 80) = false ∧ ¬((N : Int) < 80) ∧ ¬((N : Int) = 0) ∧ ¬(N = 0) := ⟨decide_eq_false (by omega), by omega, by omega, by omega⟩
theorem len_pos9 {n : Nat} (h : 0 < n) : ((n : Int) == 0) = false ∧ ¬((n : Int) = 0) := ⟨beq_eq_false_iff_ne.2 (by omega), by omega⟩
theorem ftable_pt (k m : Int) (N : Nat) (hN : 0 < N) (h80_ : 80 ≤ N) (hmax : N ≤ 1000) (nm nm2 : ByteArray) (lo hi : Int) (V : List Int) (hlo : lo ≤ hi) (hh : 0 < hi) (hv : 0 < V.length) (hv2_ : (V.length : Int) ≤ hi) (hz : (uint_ix k N) < (uint_ix m N)) (hb2 : Op.bytesLess nm.toList nm2.toList = true) (w : World)
  (HA : Aside0 (∀ W, Below w.heap.size w W → Calls Tryz.prog 23 #[] W fun e w' => ∃ ad cap, e = .returned (.slice (some ad) N cap) ∧ w'.cell? (ad.add ((uint_ix k N) * 4)) = some (.string nm) ∧ w'.cell? (ad.add ((uint_ix m N) * 4)) = some (.string nm2) ∧ Below W.heap.size W w'))
  (HF : Aside0 (∀ W, Below w.heap.size w W → Calls Tryz.prog 10 #[.string nm] W (FormOut nm lo hi V 0 W)))
  (HL : Aside0 (∀ W, Below w.heap.size w W → Calls Tryz.prog 13 #[] W (fun e w' => e = .returned (.bool true) ∧ Below W.heap.size W w'))) :
  Calls Tryz.prog 9 #[.int .i64 k, .int .i64 m] w fun e w' => e = .returned (.bool true) ∧ Below w.heap.size w w' := by
 have hmax0 : N ≤ 9223372036854775807 := Nat.le_trans hmax (by decide)
 obtain ⟨h80, h80b, hu3, hu7⟩ := len_facts h80_
 have hu1 := u64len hmax0
 have hu2 := uint_tmod k hmax0
 have hv2 := uint_tmod m hmax0
 obtain ⟨hu4, hu5, hu6⟩ := ix_facts k hN hmax
 obtain ⟨hv4, hv5, hv6⟩ := ix_facts m hN hmax
 have hl1 : decide (hi < lo) = false := decide_eq_false (Int.not_lt.2 hlo)
 have hl2 : ¬(hi < lo) := Int.not_lt.2 hlo
 have hp1 : decide (0 < hi) = true := decide_eq_true hh
 obtain ⟨hp2, hp4⟩ := len_pos9 hv
 have hp3 : decide (hi < (V.length : Int)) = false := decide_eq_false (Int.not_lt.2 hv2_)
 have hp5 : ¬(hi < (V.length : Int)) := Int.not_lt.2 hv2_
 have hz1 : decide (((uint_ix k N : Nat) : Int) < ((uint_ix m N : Nat) : Int)) = true := decide_eq_true (Int.ofNat_lt.2 hz)
 have hz3 : (((uint_ix k N : Nat) : Int) < ((uint_ix m N : Nat) : Int)) := Int.ofNat_lt.2 hz
 clear hz
 go_enter Tryz.func9, Tryz.ntmps9
 go_wp2_with (first
  | (go_at_call 23; (with_reducible refine (HA.out _ (Below.refl _ _)).mono ?_); rintro e w1 ⟨ad, cap, rfl, hc1, hc2, hb⟩; have HC1 := Aside0.mk hc1; have HC2 := Aside0.mk hc2; have HB1 := Aside0.mk hb; clear hc1 hc2 hb))
 refine start_ (n := 16) (S := fun w' => w'.cell? (ad.add ((uint_ix k N) * 4)) = some (.string nm) ∧ w'.cell? (ad.add ((uint_ix m N) * 4)) = some (.string nm2) ∧ Below w.heap.size w w') (ds := []) (Array.replicate 16 false) (by kernel_rfl) rfl rfl ⟨pw_cell_below (below_drew (Below.refl _ _)) HC1.out, pw_cell_below (below_drew (Below.refl _ _)) HC2.out, below_drew1 HB1.out⟩ (fun hHeld => ?_)
 refine with_tabW ftab4.tab4 ftab4.bits4 (fun HT_ HW_ => ?_)
 refine pz 0 14 HT_ ?_; refine pz 1 15 HT_ ?_; refine pz 2 16 HT_ ?_; refine pz 3 17 HT_ ?_; refine pz 4 18 HT_ ?_; refine pz 5 19 HT_ ?_; refine pz 6 20 HT_ ?_; refine pz 7 21 HT_ ?_; refine pz 8 22 HT_ ?_; refine pz 9 23 HT_ ?_; refine pz 10 24 HT_ ?_; refine pz 11 25 HT_ ?_; refine pz 12 26 HT_ ?_; refine pz 13 27 HT_ ?_; refine pz 14 6 HT_ ?_; refine pz 15 7 HT_ ?_
 refine done_ (done_of HT_.out (by kernel_rfl)) ?_
 have HCx := Aside0.mk hHeld
 clear HC1 HC2 HB1 hHeld
 have HC1 := Aside0.mk HCx.out.1
 have HC2 := Aside0.mk HCx.out.2.1
 have HB1 := Aside0.mk HCx.out.2.2
 have hq1 := HCx.out.1
 go_wp2_with (first
  | (go_at_call 10; (with_reducible refine (HF.out _ HB1.out).mono ?_); rintro e w2 ⟨A2, c2, rfl, hl2, hC2, hb⟩; have HB2 := Aside0.mk (below_step HB1.out hb); have HC3 := Aside0.mk (pw_cell_below hb HC1.out); have HC4 := Aside0.mk (pw_cell_below hb HC2.out); clear hl2 hC2 hb hq1)
  | ((with_reducible refine gate_store (t := 24) (p := 8) (v := .tmp 35) rfl ?_); refine wpRowSt rfl 24 (.tmp 8) (.tmp 35) rfl (w2.heap.size) (#[.string nm, .int .i64 lo, .int .i64 hi, .slice A2 V.length c2]) rfl rfl 24 _ (newBlk w2 _) (by kernel_rfl) rfl rfl ?_; have B8 := Aside0.mk (setRow_heap _ _ _ (#[.string nm, .int .i64 lo, .int .i64 hi, .slice A2 V.length c2]) _ _ (newBlk w2 (.cells #[.string ⟨#[]⟩, .int .i64 0, .int .i64 0, .slice none 0 0] 24))); have HB3 := Aside0.mk (rowBelow (below_alloc HB2.out (.cells #[.string ⟨#[]⟩, .int .i64 0, .int .i64 0, .slice none 0 0] 24)) HB2.out.size (#[.string nm, .int .i64 lo, .int .i64 hi, .slice A2 V.length c2])); have HC5 := Aside0.mk (pw_cell_below (rowBelow (bel1 w2 (.cells #[.string ⟨#[]⟩, .int .i64 0, .int .i64 0, .slice none 0 0] 24)) (Nat.le_refl _) (#[.string nm, .int .i64 lo, .int .i64 hi, .slice A2 V.length c2])) HC3.out); have HC6 := Aside0.mk (pw_cell_below (rowBelow (bel1 w2 (.cells #[.string ⟨#[]⟩, .int .i64 0, .int .i64 0, .slice none 0 0] 24)) (Nat.le_refl _) (#[.string nm, .int .i64 lo, .int .i64 hi, .slice A2 V.length c2])) HC4.out)))
 refine start_ (n := 38) (S := fun w' => w'.heap[w2.heap.size]? = some (.cells #[.string nm, .int .i64 lo, .int .i64 hi, .slice A2 V.length c2] 24 (0, 0)) ∧ w'.cell? (ad.add ((uint_ix k N) * 4)) = some (.string nm) ∧ w'.cell? (ad.add ((uint_ix m N) * 4)) = some (.string nm2) ∧ Below w.heap.size w w') (ds := []) (Array.replicate 38 false) (by kernel_rfl) rfl rfl ⟨blk_drew B8.out, pw_cell_below (below_drew (Below.refl _ _)) HC5.out, pw_cell_below (below_drew (Below.refl _ _)) HC6.out, below_drew1 HB3.out⟩ (fun hHeld => ?_)
 refine with_tabW ftab6.tab6 ftab6.bits6 (fun HT_ HW_ => ?_)
 refine pz 0 37 HT_ ?_; refine pz 1 38 HT_ ?_; refine pz 2 39 HT_ ?_; refine pz 3 40 HT_ ?_; refine pz 5 42 HT_ ?_; refine pz 6 43 HT_ ?_; refine pz 7 44 HT_ ?_; refine pz 8 45 HT_ ?_
 refine tz 4 41 HT_ HW_ (hr := (by rintro w' s0; have q1 := fun i => blk_cell s0.1 i; have q2 := s0.2.1; have q3 := s0.2.2.1; go_simp; with_reducible rfl)) (hS := hHeld) (h := ?_)
 refine tz 9 46 HT_ HW_ (hr := (by rintro w' s0; have q1 := fun i => blk_cell s0.1 i; have q2 := s0.2.1; have q3 := s0.2.2.1; go_simp; with_reducible rfl)) (hS := hHeld) (h := ?_)
 refine pz 10 47 HT_ ?_; refine pz 11 48 HT_ ?_; refine pz 12 49 HT_ ?_; refine pz 13 50 HT_ ?_; refine pz 15 52 HT_ ?_
 refine tz 14 51 HT_ HW_ (hr := (by rintro w' s0; have q1 := fun i => blk_cell s0.1 i; have q2 := s0.2.1; have q3 := s0.2.2.1; go_simp; with_reducible rfl)) (hS := hHeld) (h := ?_)
 refine tz 16 53 HT_ HW_ (hr := (by rintro w' s0; have q1 := fun i => blk_cell s0.1 i; have q2 := s0.2.1; have q3 := s0.2.2.1; go_simp; with_reducible rfl)) (hS := hHeld) (h := ?_)
 refine pz 17 54 HT_ ?_; refine pz 18 55 HT_ ?_; refine pz 19 56 HT_ ?_; refine pz 20 57 HT_ ?_
 refine tz 21 58 HT_ HW_ (hr := (by rintro w' s0; have q1 := fun i => blk_cell s0.1 i; have q2 := s0.2.1; have q3 := s0.2.2.1; go_simp; with_reducible rfl)) (hS := hHeld) (h := ?_)
 refine pz 22 59 HT_ ?_; refine pz 23 60 HT_ ?_; refine pz 24 61 HT_ ?_
 refine tz 25 62 HT_ HW_ (hr := (by rintro w' s0; have q1 := fun i => blk_cell s0.1 i; have q2 := s0.2.1; have q3 := s0.2.2.1; go_simp; with_reducible rfl)) (hS := hHeld) (h := ?_)
 refine pz 26 63 HT_ ?_; refine pz 27 64 HT_ ?_; refine pz 28 65 HT_ ?_; refine pz 29 66 HT_ ?_; refine pz 32 69 HT_ ?_
 refine tz 30 67 HT_ HW_ (hr := (by rintro w' s0; have q1 := fun i => blk_cell s0.1 i; have q2 := s0.2.1; have q3 := s0.2.2.1; go_simp; with_reducible rfl)) (hS := hHeld) (h := ?_)
 refine pz 31 68 HT_ ?_
 refine tz 33 70 HT_ HW_ (hr := (by rintro w' s0; have q1 := fun i => blk_cell s0.1 i; have q2 := s0.2.1; have q3 := s0.2.2.1; go_simp; with_reducible rfl)) (hS := hHeld) (h := ?_)
 refine pz 34 71 HT_ ?_; refine pz 35 72 HT_ ?_; refine pz 36 73 HT_ ?_; refine pz 37 74 HT_ ?_
 refine done_ (done_of HT_.out (by kernel_rfl)) ?_
 have HS := Aside0.mk hHeld
 clear hHeld
 go_wp2
 refine start_ (n := 19) (S := fun w' => w'.heap[w2.heap.size]? = some (.cells #[.string nm, .int .i64 lo, .int .i64 hi, .slice A2 V.length c2] 24 (0, 0)) ∧ w'.cell? (ad.add ((uint_ix k N) * 4)) = some (.string nm) ∧ w'.cell? (ad.add ((uint_ix m N) * 4)) = some (.string nm2) ∧ Below w.heap.size w w') (ds := []) (Array.replicate 19 false) (by kernel_rfl) rfl rfl ⟨blk_drew HS.out.1, pw_cell_below (below_drew (Below.refl _ _)) HS.out.2.1, pw_cell_below (below_drew (Below.refl _ _)) HS.out.2.2.1, below_drew1 HS.out.2.2.2⟩ (fun hHeld => ?_)
 refine with_tabW ftab8.tab8 ftab8.bits8 (fun HT_ HW_ => ?_)
 refine pz 0 75 HT_ ?_; refine pz 1 76 HT_ ?_; refine pz 2 77 HT_ ?_; refine pz 3 78 HT_ ?_; refine pz 4 79 HT_ ?_; refine pz 5 80 HT_ ?_; refine pz 6 81 HT_ ?_; refine pz 8 83 HT_ ?_; refine pz 9 84 HT_ ?_; refine pz 10 85 HT_ ?_; refine pz 11 86 HT_ ?_
 refine tz 7 82 HT_ HW_ (hr := (by rintro w' s0; have q1 := fun i => blk_cell s0.1 i; have q2 := s0.2.1; have q3 := s0.2.2.1; go_simp; with_reducible rfl)) (hS := hHeld) (h := ?_)
 refine tz 12 87 HT_ HW_ (hr := (by rintro w' s0; have q1 := fun i => blk_cell s0.1 i; have q2 := s0.2.1; have q3 := s0.2.2.1; go_simp; with_reducible rfl)) (hS := hHeld) (h := ?_)
 refine pz 13 88 HT_ ?_; refine pz 14 89 HT_ ?_; refine pz 15 90 HT_ ?_
 refine oneI 16 (some 91) HT_ rfl rfl (by kernel_rfl) (by decide) (fun K hK => ?_)
 refine goes_ Tryz.func13 (by kernel_rfl) rfl #[] (by (try simp only [List.map_toArray, List.map_cons, List.map_nil]); first | done | rfl) rfl rfl (by first | rfl | ((try simp only [List.map_toArray, List.map_cons, List.map_nil]); first | done | rfl)) ?_
 with_reducible refine (HL.out _ hHeld.2.2.2).mono ?_
 rintro e w9 ⟨rfl, hb⟩
 refine ⟨_, rfl, ?_⟩
 refine hK.out _ _ ⟨blk_below hHeld.1 hb, pw_cell_below hb hHeld.2.1, pw_cell_below hb hHeld.2.2.1, below_step hHeld.2.2.2 hb⟩ (fun hHeld => ?_)
 clear hK K
 refine nz 91 ?_
 refine pz 17 92 HT_ ?_; refine pz 18 4 HT_ ?_
 refine done_ (done_of HT_.out (by kernel_rfl)) ?_
 have HX := Aside0.mk hHeld.2.2.2
 clear hHeld
 go_wp2
 go_ret
 exact ⟨rfl, HX.out⟩
theorem ftable_pf (k m : Int) (N : Nat) (hN : 0 < N) (h80_ : 80 ≤ N) (hmax : N ≤ 1000) (nm nm2 : ByteArray) (lo hi : Int) (V : List Int) (hlo : lo ≤ hi) (hh : 0 < hi) (hv : 0 < V.length) (hv2_ : (V.length : Int) ≤ hi) (hz : ¬(uint_ix k N) < (uint_ix m N)) (hb2 : Op.bytesLess nm.toList nm2.toList = false) (w : World)
  (HA : Aside0 (∀ W, Below w.heap.size w W → Calls Tryz.prog 23 #[] W fun e w' => ∃ ad cap, e = .returned (.slice (some ad) N cap) ∧ w'.cell? (ad.add ((uint_ix k N) * 4)) = some (.string nm) ∧ w'.cell? (ad.add ((uint_ix m N) * 4)) = some (.string nm2) ∧ Below W.heap.size W w'))
  (HF : Aside0 (∀ W, Below w.heap.size w W → Calls Tryz.prog 10 #[.string nm] W (FormOut nm lo hi V 0 W)))
  (HL : Aside0 (∀ W, Below w.heap.size w W → Calls Tryz.prog 13 #[] W (fun e w' => e = .returned (.bool true) ∧ Below W.heap.size W w'))) :
  Calls Tryz.prog 9 #[.int .i64 k, .int .i64 m] w fun e w' => e = .returned (.bool true) ∧ Below w.heap.size w w' := by
 have hmax0 : N ≤ 9223372036854775807 := Nat.le_trans hmax (by decide)
 obtain ⟨h80, h80b, hu3, hu7⟩ := len_facts h80_
 have hu1 := u64len hmax0
 have hu2 := uint_tmod k hmax0
 have hv2 := uint_tmod m hmax0
 obtain ⟨hu4, hu5, hu6⟩ := ix_facts k hN hmax
 obtain ⟨hv4, hv5, hv6⟩ := ix_facts m hN hmax
 have hl1 : decide (hi < lo) = false := decide_eq_false (Int.not_lt.2 hlo)
 have hl2 : ¬(hi < lo) := Int.not_lt.2 hlo
 have hp1 : decide (0 < hi) = true := decide_eq_true hh
 obtain ⟨hp2, hp4⟩ := len_pos9 hv
 have hp3 : decide (hi < (V.length : Int)) = false := decide_eq_false (Int.not_lt.2 hv2_)
 have hp5 : ¬(hi < (V.length : Int)) := Int.not_lt.2 hv2_
 have hz1 : decide (((uint_ix k N : Nat) : Int) < ((uint_ix m N : Nat) : Int)) = false := decide_eq_false (fun h => hz (Int.ofNat_lt.1 h))
 have hz3 : ¬(((uint_ix k N : Nat) : Int) < ((uint_ix m N : Nat) : Int)) := fun h => hz (Int.ofNat_lt.1 h)
 have hz4 : ((uint_ix m N : Nat) : Int) ≤ ((uint_ix k N : Nat) : Int) := Int.not_lt.1 hz3
 have hz6 : uint_ix m N ≤ uint_ix k N := Nat.not_lt.1 hz
 have hz7 : decide (uint_ix k N < uint_ix m N) = false := decide_eq_false hz
 clear hz
 go_enter Tryz.func9, Tryz.ntmps9
 go_wp2_with (first
  | (go_at_call 23; (with_reducible refine (HA.out _ (Below.refl _ _)).mono ?_); rintro e w1 ⟨ad, cap, rfl, hc1, hc2, hb⟩; have HC1 := Aside0.mk hc1; have HC2 := Aside0.mk hc2; have HB1 := Aside0.mk hb; clear hc1 hc2 hb))
 refine start_ (n := 16) (S := fun w' => w'.cell? (ad.add ((uint_ix k N) * 4)) = some (.string nm) ∧ w'.cell? (ad.add ((uint_ix m N) * 4)) = some (.string nm2) ∧ Below w.heap.size w w') (ds := []) (Array.replicate 16 false) (by kernel_rfl) rfl rfl ⟨pw_cell_below (below_drew (Below.refl _ _)) HC1.out, pw_cell_below (below_drew (Below.refl _ _)) HC2.out, below_drew1 HB1.out⟩ (fun hHeld => ?_)
 refine with_tabW ftab4.tab4 ftab4.bits4 (fun HT_ HW_ => ?_)
 refine pz 0 14 HT_ ?_; refine pz 1 15 HT_ ?_; refine pz 2 16 HT_ ?_; refine pz 3 17 HT_ ?_; refine pz 4 18 HT_ ?_; refine pz 5 19 HT_ ?_; refine pz 6 20 HT_ ?_; refine pz 7 21 HT_ ?_; refine pz 8 22 HT_ ?_; refine pz 9 23 HT_ ?_; refine pz 10 24 HT_ ?_; refine pz 11 25 HT_ ?_; refine pz 12 26 HT_ ?_; refine pz 13 27 HT_ ?_; refine pz 14 6 HT_ ?_; refine pz 15 7 HT_ ?_
 refine done_ (done_of HT_.out (by kernel_rfl)) ?_
 have HCx := Aside0.mk hHeld
 clear HC1 HC2 HB1 hHeld
 have HC1 := Aside0.mk HCx.out.1
 have HC2 := Aside0.mk HCx.out.2.1
 have HB1 := Aside0.mk HCx.out.2.2
 have hq1 := HCx.out.1
 go_wp2_with (first
  | (go_at_call 10; (with_reducible refine (HF.out _ HB1.out).mono ?_); rintro e w2 ⟨A2, c2, rfl, hl2, hC2, hb⟩; have HB2 := Aside0.mk (below_step HB1.out hb); have HC3 := Aside0.mk (pw_cell_below hb HC1.out); have HC4 := Aside0.mk (pw_cell_below hb HC2.out); clear hl2 hC2 hb hq1)
  | ((with_reducible refine gate_store (t := 24) (p := 8) (v := .tmp 35) rfl ?_); refine wpRowSt rfl 24 (.tmp 8) (.tmp 35) rfl (w2.heap.size) (#[.string nm, .int .i64 lo, .int .i64 hi, .slice A2 V.length c2]) rfl rfl 24 _ (newBlk w2 _) (by kernel_rfl) rfl rfl ?_; have B8 := Aside0.mk (setRow_heap _ _ _ (#[.string nm, .int .i64 lo, .int .i64 hi, .slice A2 V.length c2]) _ _ (newBlk w2 (.cells #[.string ⟨#[]⟩, .int .i64 0, .int .i64 0, .slice none 0 0] 24))); have HB3 := Aside0.mk (rowBelow (below_alloc HB2.out (.cells #[.string ⟨#[]⟩, .int .i64 0, .int .i64 0, .slice none 0 0] 24)) HB2.out.size (#[.string nm, .int .i64 lo, .int .i64 hi, .slice A2 V.length c2])); have HC5 := Aside0.mk (pw_cell_below (rowBelow (bel1 w2 (.cells #[.string ⟨#[]⟩, .int .i64 0, .int .i64 0, .slice none 0 0] 24)) (Nat.le_refl _) (#[.string nm, .int .i64 lo, .int .i64 hi, .slice A2 V.length c2])) HC3.out); have HC6 := Aside0.mk (pw_cell_below (rowBelow (bel1 w2 (.cells #[.string ⟨#[]⟩, .int .i64 0, .int .i64 0, .slice none 0 0] 24)) (Nat.le_refl _) (#[.string nm, .int .i64 lo, .int .i64 hi, .slice A2 V.length c2])) HC4.out)))
 refine start_ (n := 38) (S := fun w' => w'.heap[w2.heap.size]? = some (.cells #[.string nm, .int .i64 lo, .int .i64 hi, .slice A2 V.length c2] 24 (0, 0)) ∧ w'.cell? (ad.add ((uint_ix k N) * 4)) = some (.string nm) ∧ w'.cell? (ad.add ((uint_ix m N) * 4)) = some (.string nm2) ∧ Below w.heap.size w w') (ds := []) (Array.replicate 38 false) (by kernel_rfl) rfl rfl ⟨blk_drew B8.out, pw_cell_below (below_drew (Below.refl _ _)) HC5.out, pw_cell_below (below_drew (Below.refl _ _)) HC6.out, below_drew1 HB3.out⟩ (fun hHeld => ?_)
 refine with_tabW ftab6.tab6 ftab6.bits6 (fun HT_ HW_ => ?_)
 refine pz 0 37 HT_ ?_; refine pz 1 38 HT_ ?_; refine pz 2 39 HT_ ?_; refine pz 3 40 HT_ ?_; refine pz 5 42 HT_ ?_; refine pz 6 43 HT_ ?_; refine pz 7 44 HT_ ?_; refine pz 8 45 HT_ ?_
 refine tz 4 41 HT_ HW_ (hr := (by rintro w' s0; have q1 := fun i => blk_cell s0.1 i; have q2 := s0.2.1; have q3 := s0.2.2.1; go_simp; with_reducible rfl)) (hS := hHeld) (h := ?_)
 refine tz 9 46 HT_ HW_ (hr := (by rintro w' s0; have q1 := fun i => blk_cell s0.1 i; have q2 := s0.2.1; have q3 := s0.2.2.1; go_simp; with_reducible rfl)) (hS := hHeld) (h := ?_)
 refine pz 10 47 HT_ ?_; refine pz 11 48 HT_ ?_; refine pz 12 49 HT_ ?_; refine pz 13 50 HT_ ?_; refine pz 15 52 HT_ ?_
 refine tz 14 51 HT_ HW_ (hr := (by rintro w' s0; have q1 := fun i => blk_cell s0.1 i; have q2 := s0.2.1; have q3 := s0.2.2.1; go_simp; with_reducible rfl)) (hS := hHeld) (h := ?_)
 refine tz 16 53 HT_ HW_ (hr := (by rintro w' s0; have q1 := fun i => blk_cell s0.1 i; have q2 := s0.2.1; have q3 := s0.2.2.1; go_simp; with_reducible rfl)) (hS := hHeld) (h := ?_)
 refine pz 17 54 HT_ ?_; refine pz 18 55 HT_ ?_; refine pz 19 56 HT_ ?_; refine pz 20 57 HT_ ?_
 refine tz 21 58 HT_ HW_ (hr := (by rintro w' s0; have q1 := fun i => blk_cell s0.1 i; have q2 := s0.2.1; have q3 := s0.2.2.1; go_simp; with_reducible rfl)) (hS := hHeld) (h := ?_)
 refine pz 22 59 HT_ ?_; refine pz 23 60 HT_ ?_; refine pz 24 61 HT_ ?_
 refine tz 25 62 HT_ HW_ (hr := (by rintro w' s0; have q1 := fun i => blk_cell s0.1 i; have q2 := s0.2.1; have q3 := s0.2.2.1; go_simp; with_reducible rfl)) (hS := hHeld) (h := ?_)
 refine pz 26 63 HT_ ?_; refine pz 27 64 HT_ ?_; refine pz 28 65 HT_ ?_; refine pz 29 66 HT_ ?_; refine pz 32 69 HT_ ?_
 refine tz 30 67 HT_ HW_ (hr := (by rintro w' s0; have q1 := fun i => blk_cell s0.1 i; have q2 := s0.2.1; have q3 := s0.2.2.1; go_simp; with_reducible rfl)) (hS := hHeld) (h := ?_)
 refine pz 31 68 HT_ ?_
 refine tz 33 70 HT_ HW_ (hr := (by rintro w' s0; have q1 := fun i => blk_cell s0.1 i; have q2 := s0.2.1; have q3 := s0.2.2.1; go_simp; with_reducible rfl)) (hS := hHeld) (h := ?_)
 refine pz 34 71 HT_ ?_; refine pz 35 72 HT_ ?_; refine pz 36 73 HT_ ?_; refine pz 37 74 HT_ ?_
 refine done_ (done_of HT_.out (by kernel_rfl)) ?_
 have HS := Aside0.mk hHeld
 clear hHeld
 go_wp2
 refine start_ (n := 19) (S := fun w' => w'.heap[w2.heap.size]? = some (.cells #[.string nm, .int .i64 lo, .int .i64 hi, .slice A2 V.length c2] 24 (0, 0)) ∧ w'.cell? (ad.add ((uint_ix k N) * 4)) = some (.string nm) ∧ w'.cell? (ad.add ((uint_ix m N) * 4)) = some (.string nm2) ∧ Below w.heap.size w w') (ds := []) (Array.replicate 19 false) (by kernel_rfl) rfl rfl ⟨blk_drew HS.out.1, pw_cell_below (below_drew (Below.refl _ _)) HS.out.2.1, pw_cell_below (below_drew (Below.refl _ _)) HS.out.2.2.1, below_drew1 HS.out.2.2.2⟩ (fun hHeld => ?_)
 refine with_tabW ftab8.tab8 ftab8.bits8 (fun HT_ HW_ => ?_)
 refine pz 0 75 HT_ ?_; refine pz 1 76 HT_ ?_; refine pz 2 77 HT_ ?_; refine pz 3 78 HT_ ?_; refine pz 4 79 HT_ ?_; refine pz 5 80 HT_ ?_; refine pz 6 81 HT_ ?_; refine pz 8 83 HT_ ?_; refine pz 9 84 HT_ ?_; refine pz 10 85 HT_ ?_; refine pz 11 86 HT_ ?_
 refine tz 7 82 HT_ HW_ (hr := (by rintro w' s0; have q1 := fun i => blk_cell s0.1 i; have q2 := s0.2.1; have q3 := s0.2.2.1; go_simp; with_reducible rfl)) (hS := hHeld) (h := ?_)
 refine tz 12 87 HT_ HW_ (hr := (by rintro w' s0; have q1 := fun i => blk_cell s0.1 i; have q2 := s0.2.1; have q3 := s0.2.2.1; go_simp; with_reducible rfl)) (hS := hHeld) (h := ?_)
 refine pz 13 88 HT_ ?_; refine pz 14 89 HT_ ?_; refine pz 15 90 HT_ ?_
 refine oneI 16 (some 91) HT_ rfl rfl (by kernel_rfl) (by decide) (fun K hK => ?_)
 refine goes_ Tryz.func13 (by kernel_rfl) rfl #[] (by (try simp only [List.map_toArray, List.map_cons, List.map_nil]); first | done | rfl) rfl rfl (by first | rfl | ((try simp only [List.map_toArray, List.map_cons, List.map_nil]); first | done | rfl)) ?_
 with_reducible refine (HL.out _ hHeld.2.2.2).mono ?_
 rintro e w9 ⟨rfl, hb⟩
 refine ⟨_, rfl, ?_⟩
 refine hK.out _ _ ⟨blk_below hHeld.1 hb, pw_cell_below hb hHeld.2.1, pw_cell_below hb hHeld.2.2.1, below_step hHeld.2.2.2 hb⟩ (fun hHeld => ?_)
 clear hK K
 refine nz 91 ?_
 refine pz 17 92 HT_ ?_; refine pz 18 4 HT_ ?_
 refine done_ (done_of HT_.out (by kernel_rfl)) ?_
 have HX := Aside0.mk hHeld.2.2.2
 clear hHeld
 go_wp2
 go_ret
 exact ⟨rfl, HX.out⟩
theorem ftable_zt (k m : Int) (N : Nat) (hN : 0 < N) (h80_ : 80 ≤ N) (hmax : N ≤ 1000) (nm nm2 : ByteArray) (lo hi : Int) (V : List Int) (hlo : lo ≤ hi) (hh : ¬(0 < hi)) (hz : (uint_ix k N) < (uint_ix m N)) (hb2 : Op.bytesLess nm.toList nm2.toList = true) (w : World)
  (HA : Aside0 (∀ W, Below w.heap.size w W → Calls Tryz.prog 23 #[] W fun e w' => ∃ ad cap, e = .returned (.slice (some ad) N cap) ∧ w'.cell? (ad.add ((uint_ix k N) * 4)) = some (.string nm) ∧ w'.cell? (ad.add ((uint_ix m N) * 4)) = some (.string nm2) ∧ Below W.heap.size W w'))
  (HF : Aside0 (∀ W, Below w.heap.size w W → Calls Tryz.prog 10 #[.string nm] W (FormOut nm lo hi V 0 W)))
  (HL : Aside0 (∀ W, Below w.heap.size w W → Calls Tryz.prog 13 #[] W (fun e w' => e = .returned (.bool true) ∧ Below W.heap.size W w'))) :
  Calls Tryz.prog 9 #[.int .i64 k, .int .i64 m] w fun e w' => e = .returned (.bool true) ∧ Below w.heap.size w w' := by
 have hmax0 : N ≤ 9223372036854775807 := Nat.le_trans hmax (by decide)
 obtain ⟨h80, h80b, hu3, hu7⟩ := len_facts h80_
 have hu1 := u64len hmax0
 have hu2 := uint_tmod k hmax0
 have hv2 := uint_tmod m hmax0
 obtain ⟨hu4, hu5, hu6⟩ := ix_facts k hN hmax
 obtain ⟨hv4, hv5, hv6⟩ := ix_facts m hN hmax
 have hl1 : decide (hi < lo) = false := decide_eq_false (Int.not_lt.2 hlo)
 have hl2 : ¬(hi < lo) := Int.not_lt.2 hlo
 have hp1 : decide (0 < hi) = false := decide_eq_false hh
 have hp6 : hi ≤ 0 := Int.not_lt.1 hh
 have hz1 : decide (((uint_ix k N : Nat) : Int) < ((uint_ix m N : Nat) : Int)) = true := decide_eq_true (Int.ofNat_lt.2 hz)
 have hz3 : (((uint_ix k N : Nat) : Int) < ((uint_ix m N : Nat) : Int)) := Int.ofNat_lt.2 hz
 clear hz
 go_enter Tryz.func9, Tryz.ntmps9
 go_wp2_with (first
  | (go_at_call 23; (with_reducible refine (HA.out _ (Below.refl _ _)).mono ?_); rintro e w1 ⟨ad, cap, rfl, hc1, hc2, hb⟩; have HC1 := Aside0.mk hc1; have HC2 := Aside0.mk hc2; have HB1 := Aside0.mk hb; clear hc1 hc2 hb))
 refine start_ (n := 16) (S := fun w' => w'.cell? (ad.add ((uint_ix k N) * 4)) = some (.string nm) ∧ w'.cell? (ad.add ((uint_ix m N) * 4)) = some (.string nm2) ∧ Below w.heap.size w w') (ds := []) (Array.replicate 16 false) (by kernel_rfl) rfl rfl ⟨pw_cell_below (below_drew (Below.refl _ _)) HC1.out, pw_cell_below (below_drew (Below.refl _ _)) HC2.out, below_drew1 HB1.out⟩ (fun hHeld => ?_)
 refine with_tabW ftab4.tab4 ftab4.bits4 (fun HT_ HW_ => ?_)
 refine pz 0 14 HT_ ?_; refine pz 1 15 HT_ ?_; refine pz 2 16 HT_ ?_; refine pz 3 17 HT_ ?_; refine pz 4 18 HT_ ?_; refine pz 5 19 HT_ ?_; refine pz 6 20 HT_ ?_; refine pz 7 21 HT_ ?_; refine pz 8 22 HT_ ?_; refine pz 9 23 HT_ ?_; refine pz 10 24 HT_ ?_; refine pz 11 25 HT_ ?_; refine pz 12 26 HT_ ?_; refine pz 13 27 HT_ ?_; refine pz 14 6 HT_ ?_; refine pz 15 7 HT_ ?_
 refine done_ (done_of HT_.out (by kernel_rfl)) ?_
 have HCx := Aside0.mk hHeld
 clear HC1 HC2 HB1 hHeld
 have HC1 := Aside0.mk HCx.out.1
 have HC2 := Aside0.mk HCx.out.2.1
 have HB1 := Aside0.mk HCx.out.2.2
 have hq1 := HCx.out.1
 go_wp2_with (first
  | (go_at_call 10; (with_reducible refine (HF.out _ HB1.out).mono ?_); rintro e w2 ⟨A2, c2, rfl, hl2, hC2, hb⟩; have HB2 := Aside0.mk (below_step HB1.out hb); have HC3 := Aside0.mk (pw_cell_below hb HC1.out); have HC4 := Aside0.mk (pw_cell_below hb HC2.out); clear hl2 hC2 hb hq1)
  | ((with_reducible refine gate_store (t := 24) (p := 8) (v := .tmp 35) rfl ?_); refine wpRowSt rfl 24 (.tmp 8) (.tmp 35) rfl (w2.heap.size) (#[.string nm, .int .i64 lo, .int .i64 hi, .slice A2 V.length c2]) rfl rfl 24 _ (newBlk w2 _) (by kernel_rfl) rfl rfl ?_; have B8 := Aside0.mk (setRow_heap _ _ _ (#[.string nm, .int .i64 lo, .int .i64 hi, .slice A2 V.length c2]) _ _ (newBlk w2 (.cells #[.string ⟨#[]⟩, .int .i64 0, .int .i64 0, .slice none 0 0] 24))); have HB3 := Aside0.mk (rowBelow (below_alloc HB2.out (.cells #[.string ⟨#[]⟩, .int .i64 0, .int .i64 0, .slice none 0 0] 24)) HB2.out.size (#[.string nm, .int .i64 lo, .int .i64 hi, .slice A2 V.length c2])); have HC5 := Aside0.mk (pw_cell_below (rowBelow (bel1 w2 (.cells #[.string ⟨#[]⟩, .int .i64 0, .int .i64 0, .slice none 0 0] 24)) (Nat.le_refl _) (#[.string nm, .int .i64 lo, .int .i64 hi, .slice A2 V.length c2])) HC3.out); have HC6 := Aside0.mk (pw_cell_below (rowBelow (bel1 w2 (.cells #[.string ⟨#[]⟩, .int .i64 0, .int .i64 0, .slice none 0 0] 24)) (Nat.le_refl _) (#[.string nm, .int .i64 lo, .int .i64 hi, .slice A2 V.length c2])) HC4.out)))
 refine start_ (n := 38) (S := fun w' => w'.heap[w2.heap.size]? = some (.cells #[.string nm, .int .i64 lo, .int .i64 hi, .slice A2 V.length c2] 24 (0, 0)) ∧ w'.cell? (ad.add ((uint_ix k N) * 4)) = some (.string nm) ∧ w'.cell? (ad.add ((uint_ix m N) * 4)) = some (.string nm2) ∧ Below w.heap.size w w') (ds := []) (Array.replicate 38 false) (by kernel_rfl) rfl rfl ⟨blk_drew B8.out, pw_cell_below (below_drew (Below.refl _ _)) HC5.out, pw_cell_below (below_drew (Below.refl _ _)) HC6.out, below_drew1 HB3.out⟩ (fun hHeld => ?_)
 refine with_tabW ftab6.tab6 ftab6.bits6 (fun HT_ HW_ => ?_)
 refine pz 0 37 HT_ ?_; refine pz 1 38 HT_ ?_; refine pz 2 39 HT_ ?_; refine pz 3 40 HT_ ?_; refine pz 5 42 HT_ ?_; refine pz 6 43 HT_ ?_; refine pz 7 44 HT_ ?_; refine pz 8 45 HT_ ?_
 refine tz 4 41 HT_ HW_ (hr := (by rintro w' s0; have q1 := fun i => blk_cell s0.1 i; have q2 := s0.2.1; have q3 := s0.2.2.1; go_simp; with_reducible rfl)) (hS := hHeld) (h := ?_)
 refine tz 9 46 HT_ HW_ (hr := (by rintro w' s0; have q1 := fun i => blk_cell s0.1 i; have q2 := s0.2.1; have q3 := s0.2.2.1; go_simp; with_reducible rfl)) (hS := hHeld) (h := ?_)
 refine pz 10 47 HT_ ?_; refine pz 11 48 HT_ ?_; refine pz 12 49 HT_ ?_; refine pz 13 50 HT_ ?_; refine pz 15 52 HT_ ?_
 refine tz 14 51 HT_ HW_ (hr := (by rintro w' s0; have q1 := fun i => blk_cell s0.1 i; have q2 := s0.2.1; have q3 := s0.2.2.1; go_simp; with_reducible rfl)) (hS := hHeld) (h := ?_)
 refine tz 16 53 HT_ HW_ (hr := (by rintro w' s0; have q1 := fun i => blk_cell s0.1 i; have q2 := s0.2.1; have q3 := s0.2.2.1; go_simp; with_reducible rfl)) (hS := hHeld) (h := ?_)
 refine pz 17 54 HT_ ?_; refine pz 18 55 HT_ ?_; refine pz 19 56 HT_ ?_; refine pz 20 57 HT_ ?_
 refine tz 21 58 HT_ HW_ (hr := (by rintro w' s0; have q1 := fun i => blk_cell s0.1 i; have q2 := s0.2.1; have q3 := s0.2.2.1; go_simp; with_reducible rfl)) (hS := hHeld) (h := ?_)
 refine pz 22 59 HT_ ?_; refine pz 23 60 HT_ ?_; refine uz 24 61 HT_ ?_; refine uz 25 62 HT_ ?_; refine uz 26 63 HT_ ?_; refine uz 27 64 HT_ ?_; refine uz 28 65 HT_ ?_; refine uz 29 66 HT_ ?_; refine uz 30 67 HT_ ?_; refine uz 31 68 HT_ ?_; refine uz 32 69 HT_ ?_; refine uz 33 70 HT_ ?_; refine uz 34 71 HT_ ?_; refine uz 35 72 HT_ ?_; refine pz 36 73 HT_ ?_; refine pz 37 74 HT_ ?_
 refine done_ (done_of HT_.out (by kernel_rfl)) ?_
 have HS := Aside0.mk hHeld
 clear hHeld
 go_wp2
 refine start_ (n := 19) (S := fun w' => w'.heap[w2.heap.size]? = some (.cells #[.string nm, .int .i64 lo, .int .i64 hi, .slice A2 V.length c2] 24 (0, 0)) ∧ w'.cell? (ad.add ((uint_ix k N) * 4)) = some (.string nm) ∧ w'.cell? (ad.add ((uint_ix m N) * 4)) = some (.string nm2) ∧ Below w.heap.size w w') (ds := []) (Array.replicate 19 false) (by kernel_rfl) rfl rfl ⟨blk_drew HS.out.1, pw_cell_below (below_drew (Below.refl _ _)) HS.out.2.1, pw_cell_below (below_drew (Below.refl _ _)) HS.out.2.2.1, below_drew1 HS.out.2.2.2⟩ (fun hHeld => ?_)
 refine with_tabW ftab8.tab8 ftab8.bits8 (fun HT_ HW_ => ?_)
 refine pz 0 75 HT_ ?_; refine pz 1 76 HT_ ?_; refine pz 2 77 HT_ ?_; refine pz 3 78 HT_ ?_; refine pz 4 79 HT_ ?_; refine pz 5 80 HT_ ?_; refine pz 6 81 HT_ ?_; refine pz 8 83 HT_ ?_; refine pz 9 84 HT_ ?_; refine pz 10 85 HT_ ?_; refine pz 11 86 HT_ ?_
 refine tz 7 82 HT_ HW_ (hr := (by rintro w' s0; have q1 := fun i => blk_cell s0.1 i; have q2 := s0.2.1; have q3 := s0.2.2.1; go_simp; with_reducible rfl)) (hS := hHeld) (h := ?_)
 refine tz 12 87 HT_ HW_ (hr := (by rintro w' s0; have q1 := fun i => blk_cell s0.1 i; have q2 := s0.2.1; have q3 := s0.2.2.1; go_simp; with_reducible rfl)) (hS := hHeld) (h := ?_)
 refine pz 13 88 HT_ ?_; refine pz 14 89 HT_ ?_; refine pz 15 90 HT_ ?_
 refine oneI 16 (some 91) HT_ rfl rfl (by kernel_rfl) (by decide) (fun K hK => ?_)
 refine goes_ Tryz.func13 (by kernel_rfl) rfl #[] (by (try simp only [List.map_toArray, List.map_cons, List.map_nil]); first | done | rfl) rfl rfl (by first | rfl | ((try simp only [List.map_toArray, List.map_cons, List.map_nil]); first | done | rfl)) ?_
 with_reducible refine (HL.out _ hHeld.2.2.2).mono ?_
 rintro e w9 ⟨rfl, hb⟩
 refine ⟨_, rfl, ?_⟩
 refine hK.out _ _ ⟨blk_below hHeld.1 hb, pw_cell_below hb hHeld.2.1, pw_cell_below hb hHeld.2.2.1, below_step hHeld.2.2.2 hb⟩ (fun hHeld => ?_)
 clear hK K
 refine nz 91 ?_
 refine pz 17 92 HT_ ?_; refine pz 18 4 HT_ ?_
 refine done_ (done_of HT_.out (by kernel_rfl)) ?_
 have HX := Aside0.mk hHeld.2.2.2
 clear hHeld
 go_wp2
 go_ret
 exact ⟨rfl, HX.out⟩
theorem ftable_zf (k m : Int) (N : Nat) (hN : 0 < N) (h80_ : 80 ≤ N) (hmax : N ≤ 1000) (nm nm2 : ByteArray) (lo hi : Int) (V : List Int) (hlo : lo ≤ hi) (hh : ¬(0 < hi)) (hz : ¬(uint_ix k N) < (uint_ix m N)) (hb2 : Op.bytesLess nm.toList nm2.toList = false) (w : World)
  (HA : Aside0 (∀ W, Below w.heap.size w W → Calls Tryz.prog 23 #[] W fun e w' => ∃ ad cap, e = .returned (.slice (some ad) N cap) ∧ w'.cell? (ad.add ((uint_ix k N) * 4)) = some (.string nm) ∧ w'.cell? (ad.add ((uint_ix m N) * 4)) = some (.string nm2) ∧ Below W.heap.size W w'))
  (HF : Aside0 (∀ W, Below w.heap.size w W → Calls Tryz.prog 10 #[.string nm] W (FormOut nm lo hi V 0 W)))
  (HL : Aside0 (∀ W, Below w.heap.size w W → Calls Tryz.prog 13 #[] W (fun e w' => e = .returned (.bool true) ∧ Below W.heap.size W w'))) :
  Calls Tryz.prog 9 #[.int .i64 k, .int .i64 m] w fun e w' => e = .returned (.bool true) ∧ Below w.heap.size w w' := by
 have hmax0 : N ≤ 9223372036854775807 := Nat.le_trans hmax (by decide)
 obtain ⟨h80, h80b, hu3, hu7⟩ := len_facts h80_
 have hu1 := u64len hmax0
 have hu2 := uint_tmod k hmax0
 have hv2 := uint_tmod m hmax0
 obtain ⟨hu4, hu5, hu6⟩ := ix_facts k hN hmax
 obtain ⟨hv4, hv5, hv6⟩ := ix_facts m hN hmax
 have hl1 : decide (hi < lo) = false := decide_eq_false (Int.not_lt.2 hlo)
 have hl2 : ¬(hi < lo) := Int.not_lt.2 hlo
 have hp1 : decide (0 < hi) = false := decide_eq_false hh
 have hp6 : hi ≤ 0 := Int.not_lt.1 hh
 have hz1 : decide (((uint_ix k N : Nat) : Int) < ((uint_ix m N : Nat) : Int)) = false := decide_eq_false (fun h => hz (Int.ofNat_lt.1 h))
 have hz3 : ¬(((uint_ix k N : Nat) : Int) < ((uint_ix m N : Nat) : Int)) := fun h => hz (Int.ofNat_lt.1 h)
 have hz4 : ((uint_ix m N : Nat) : Int) ≤ ((uint_ix k N : Nat) : Int) := Int.not_lt.1 hz3
 have hz6 : uint_ix m N ≤ uint_ix k N := Nat.not_lt.1 hz
 have hz7 : decide (uint_ix k N < uint_ix m N) = false := decide_eq_false hz
 clear hz
 go_enter Tryz.func9, Tryz.ntmps9
 go_wp2_with (first
  | (go_at_call 23; (with_reducible refine (HA.out _ (Below.refl _ _)).mono ?_); rintro e w1 ⟨ad, cap, rfl, hc1, hc2, hb⟩; have HC1 := Aside0.mk hc1; have HC2 := Aside0.mk hc2; have HB1 := Aside0.mk hb; clear hc1 hc2 hb))
 refine start_ (n := 16) (S := fun w' => w'.cell? (ad.add ((uint_ix k N) * 4)) = some (.string nm) ∧ w'.cell? (ad.add ((uint_ix m N) * 4)) = some (.string nm2) ∧ Below w.heap.size w w') (ds := []) (Array.replicate 16 false) (by kernel_rfl) rfl rfl ⟨pw_cell_below (below_drew (Below.refl _ _)) HC1.out, pw_cell_below (below_drew (Below.refl _ _)) HC2.out, below_drew1 HB1.out⟩ (fun hHeld => ?_)
 refine with_tabW ftab4.tab4 ftab4.bits4 (fun HT_ HW_ => ?_)
 refine pz 0 14 HT_ ?_; refine pz 1 15 HT_ ?_; refine pz 2 16 HT_ ?_; refine pz 3 17 HT_ ?_; refine pz 4 18 HT_ ?_; refine pz 5 19 HT_ ?_; refine pz 6 20 HT_ ?_; refine pz 7 21 HT_ ?_; refine pz 8 22 HT_ ?_; refine pz 9 23 HT_ ?_; refine pz 10 24 HT_ ?_; refine pz 11 25 HT_ ?_; refine pz 12 26 HT_ ?_; refine pz 13 27 HT_ ?_; refine pz 14 6 HT_ ?_; refine pz 15 7 HT_ ?_
 refine done_ (done_of HT_.out (by kernel_rfl)) ?_
 have HCx := Aside0.mk hHeld
 clear HC1 HC2 HB1 hHeld
 have HC1 := Aside0.mk HCx.out.1
 have HC2 := Aside0.mk HCx.out.2.1
 have HB1 := Aside0.mk HCx.out.2.2
 have hq1 := HCx.out.1
 go_wp2_with (first
  | (go_at_call 10; (with_reducible refine (HF.out _ HB1.out).mono ?_); rintro e w2 ⟨A2, c2, rfl, hl2, hC2, hb⟩; have HB2 := Aside0.mk (below_step HB1.out hb); have HC3 := Aside0.mk (pw_cell_below hb HC1.out); have HC4 := Aside0.mk (pw_cell_below hb HC2.out); clear hl2 hC2 hb hq1)
  | ((with_reducible refine gate_store (t := 24) (p := 8) (v := .tmp 35) rfl ?_); refine wpRowSt rfl 24 (.tmp 8) (.tmp 35) rfl (w2.heap.size) (#[.string nm, .int .i64 lo, .int .i64 hi, .slice A2 V.length c2]) rfl rfl 24 _ (newBlk w2 _) (by kernel_rfl) rfl rfl ?_; have B8 := Aside0.mk (setRow_heap _ _ _ (#[.string nm, .int .i64 lo, .int .i64 hi, .slice A2 V.length c2]) _ _ (newBlk w2 (.cells #[.string ⟨#[]⟩, .int .i64 0, .int .i64 0, .slice none 0 0] 24))); have HB3 := Aside0.mk (rowBelow (below_alloc HB2.out (.cells #[.string ⟨#[]⟩, .int .i64 0, .int .i64 0, .slice none 0 0] 24)) HB2.out.size (#[.string nm, .int .i64 lo, .int .i64 hi, .slice A2 V.length c2])); have HC5 := Aside0.mk (pw_cell_below (rowBelow (bel1 w2 (.cells #[.string ⟨#[]⟩, .int .i64 0, .int .i64 0, .slice none 0 0] 24)) (Nat.le_refl _) (#[.string nm, .int .i64 lo, .int .i64 hi, .slice A2 V.length c2])) HC3.out); have HC6 := Aside0.mk (pw_cell_below (rowBelow (bel1 w2 (.cells #[.string ⟨#[]⟩, .int .i64 0, .int .i64 0, .slice none 0 0] 24)) (Nat.le_refl _) (#[.string nm, .int .i64 lo, .int .i64 hi, .slice A2 V.length c2])) HC4.out)))
 refine start_ (n := 38) (S := fun w' => w'.heap[w2.heap.size]? = some (.cells #[.string nm, .int .i64 lo, .int .i64 hi, .slice A2 V.length c2] 24 (0, 0)) ∧ w'.cell? (ad.add ((uint_ix k N) * 4)) = some (.string nm) ∧ w'.cell? (ad.add ((uint_ix m N) * 4)) = some (.string nm2) ∧ Below w.heap.size w w') (ds := []) (Array.replicate 38 false) (by kernel_rfl) rfl rfl ⟨blk_drew B8.out, pw_cell_below (below_drew (Below.refl _ _)) HC5.out, pw_cell_below (below_drew (Below.refl _ _)) HC6.out, below_drew1 HB3.out⟩ (fun hHeld => ?_)
 refine with_tabW ftab6.tab6 ftab6.bits6 (fun HT_ HW_ => ?_)
 refine pz 0 37 HT_ ?_; refine pz 1 38 HT_ ?_; refine pz 2 39 HT_ ?_; refine pz 3 40 HT_ ?_; refine pz 5 42 HT_ ?_; refine pz 6 43 HT_ ?_; refine pz 7 44 HT_ ?_; refine pz 8 45 HT_ ?_
 refine tz 4 41 HT_ HW_ (hr := (by rintro w' s0; have q1 := fun i => blk_cell s0.1 i; have q2 := s0.2.1; have q3 := s0.2.2.1; go_simp; with_reducible rfl)) (hS := hHeld) (h := ?_)
 refine tz 9 46 HT_ HW_ (hr := (by rintro w' s0; have q1 := fun i => blk_cell s0.1 i; have q2 := s0.2.1; have q3 := s0.2.2.1; go_simp; with_reducible rfl)) (hS := hHeld) (h := ?_)
 refine pz 10 47 HT_ ?_; refine pz 11 48 HT_ ?_; refine pz 12 49 HT_ ?_; refine pz 13 50 HT_ ?_; refine pz 15 52 HT_ ?_
 refine tz 14 51 HT_ HW_ (hr := (by rintro w' s0; have q1 := fun i => blk_cell s0.1 i; have q2 := s0.2.1; have q3 := s0.2.2.1; go_simp; with_reducible rfl)) (hS := hHeld) (h := ?_)
 refine tz 16 53 HT_ HW_ (hr := (by rintro w' s0; have q1 := fun i => blk_cell s0.1 i; have q2 := s0.2.1; have q3 := s0.2.2.1; go_simp; with_reducible rfl)) (hS := hHeld) (h := ?_)
 refine pz 17 54 HT_ ?_; refine pz 18 55 HT_ ?_; refine pz 19 56 HT_ ?_; refine pz 20 57 HT_ ?_
 refine tz 21 58 HT_ HW_ (hr := (by rintro w' s0; have q1 := fun i => blk_cell s0.1 i; have q2 := s0.2.1; have q3 := s0.2.2.1; go_simp; with_reducible rfl)) (hS := hHeld) (h := ?_)
 refine pz 22 59 HT_ ?_; refine pz 23 60 HT_ ?_; refine uz 24 61 HT_ ?_; refine uz 25 62 HT_ ?_; refine uz 26 63 HT_ ?_; refine uz 27 64 HT_ ?_; refine uz 28 65 HT_ ?_; refine uz 29 66 HT_ ?_; refine uz 30 67 HT_ ?_; refine uz 31 68 HT_ ?_; refine uz 32 69 HT_ ?_; refine uz 33 70 HT_ ?_; refine uz 34 71 HT_ ?_; refine uz 35 72 HT_ ?_; refine pz 36 73 HT_ ?_; refine pz 37 74 HT_ ?_
 refine done_ (done_of HT_.out (by kernel_rfl)) ?_
 have HS := Aside0.mk hHeld
 clear hHeld
 go_wp2
 refine start_ (n := 19) (S := fun w' => w'.heap[w2.heap.size]? = some (.cells #[.string nm, .int .i64 lo, .int .i64 hi, .slice A2 V.length c2] 24 (0, 0)) ∧ w'.cell? (ad.add ((uint_ix k N) * 4)) = some (.string nm) ∧ w'.cell? (ad.add ((uint_ix m N) * 4)) = some (.string nm2) ∧ Below w.heap.size w w') (ds := []) (Array.replicate 19 false) (by kernel_rfl) rfl rfl ⟨blk_drew HS.out.1, pw_cell_below (below_drew (Below.refl _ _)) HS.out.2.1, pw_cell_below (below_drew (Below.refl _ _)) HS.out.2.2.1, below_drew1 HS.out.2.2.2⟩ (fun hHeld => ?_)
 refine with_tabW ftab8.tab8 ftab8.bits8 (fun HT_ HW_ => ?_)
 refine pz 0 75 HT_ ?_; refine pz 1 76 HT_ ?_; refine pz 2 77 HT_ ?_; refine pz 3 78 HT_ ?_; refine pz 4 79 HT_ ?_; refine pz 5 80 HT_ ?_; refine pz 6 81 HT_ ?_; refine pz 8 83 HT_ ?_; refine pz 9 84 HT_ ?_; refine pz 10 85 HT_ ?_; refine pz 11 86 HT_ ?_
 refine tz 7 82 HT_ HW_ (hr := (by rintro w' s0; have q1 := fun i => blk_cell s0.1 i; have q2 := s0.2.1; have q3 := s0.2.2.1; go_simp; with_reducible rfl)) (hS := hHeld) (h := ?_)
 refine tz 12 87 HT_ HW_ (hr := (by rintro w' s0; have q1 := fun i => blk_cell s0.1 i; have q2 := s0.2.1; have q3 := s0.2.2.1; go_simp; with_reducible rfl)) (hS := hHeld) (h := ?_)
 refine pz 13 88 HT_ ?_; refine pz 14 89 HT_ ?_; refine pz 15 90 HT_ ?_
 refine oneI 16 (some 91) HT_ rfl rfl (by kernel_rfl) (by decide) (fun K hK => ?_)
 refine goes_ Tryz.func13 (by kernel_rfl) rfl #[] (by (try simp only [List.map_toArray, List.map_cons, List.map_nil]); first | done | rfl) rfl rfl (by first | rfl | ((try simp only [List.map_toArray, List.map_cons, List.map_nil]); first | done | rfl)) ?_
 with_reducible refine (HL.out _ hHeld.2.2.2).mono ?_
 rintro e w9 ⟨rfl, hb⟩
 refine ⟨_, rfl, ?_⟩
 refine hK.out _ _ ⟨blk_below hHeld.1 hb, pw_cell_below hb hHeld.2.1, pw_cell_below hb hHeld.2.2.1, below_step hHeld.2.2.2 hb⟩ (fun hHeld => ?_)
 clear hK K
 refine nz 91 ?_
 refine pz 17 92 HT_ ?_; refine pz 18 4 HT_ ?_
 refine done_ (done_of HT_.out (by kernel_rfl)) ?_
 have HX := Aside0.mk hHeld.2.2.2
 clear hHeld
 go_wp2
 go_ret
 exact ⟨rfl, HX.out⟩
end Go.Proofs.YtopdjokncbpghaaGreatDoor.Pr
end
