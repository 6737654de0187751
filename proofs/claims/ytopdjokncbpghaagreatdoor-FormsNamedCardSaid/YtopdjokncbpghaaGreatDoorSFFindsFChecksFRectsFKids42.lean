/-
  Lemmas for the law FFindsFChecksFRectsFKids.
-/
import Derived.Test.YtopdjokncbpghaaGreatDoorSFFindsFChecksFRectsFKids41
import Derived.Test.YtopdjokncbpghaaGreatDoorSFFindsFChecksFRectsFKids31
import Derived.Test.YtopdjokncbpghaaGreatDoorSFFindsFChecksFRectsFKids15
import Derived.Test.YtopdjokncbpghaaGreatDoorSFFindsFChecksFRectsFKids6
import Derived.Test.YtopdjokncbpghaaGreatDoorSFFindsFChecksFRectsFKids23
import Derived.Test.YtopdjokncbpghaaGreatDoorSFFindsFChecksFRectsFKids7
set_option maxHeartbeats 8000000
set_option maxRecDepth 100000
set_option linter.unusedVariables false
set_option linter.unusedSimpArgs false
section
namespace Go.Proofs.YtopdjokncbpghaaGreatDoor.Pr
open Go.RowKit Go.Proofs.YtopdjokncbpghaaGreatDoorW.PrintWords Go.Proofs.YtopdjokncbpghaaGreatDoorW.PrintLast Go.Proofs.YtopdjokncbpghaaGreatDoorW.PrintMore
def fchecks.T1 : Bool × List (List Nat × List Nat) := (true, [([], []), ([0], [0]), ([1, 1], [1]), ([2], [2]), ([3, 2, 2], [2, 3]), ([2], [2]), ([5, 4, 2], [2, 5]), ([4, 6, 2], [2, 4, 6]), ([2, 7], [2, 7]), ([8, 6], [8]), ([9, 9], [9]), ([9, 10], [9, 10]), ([11, 10, 0, 1, 2, 3, 4, 5, 6, 7, 8, 9, 10, 11], [11])])
def fchecks.B1 : List Nat := [0, 1, 3, 7, 15, 7, 63, 127, 255, 511, 1023, 2047, 4095]
theorem fchecks.tab1 : rtab .any (opsOf Tryz.f4 1) = fchecks.T1 := by kernel_rfl
theorem fchecks.bits1 : waitsOk fchecks.T1.2 fchecks.B1 = true := by kernel_rfl
theorem fchecks_deep (n : Nd) (A : Option Addr) (c : Nat) (w : World)
  (HD : Aside0 (∀ W, Below w.heap.size w W → Calls Tryz.prog 14 #[nodeV n A c] W (fun e w' => e = .returned (.bool true) ∧ Below W.heap.size W w')))
  (HL : Aside0 (∀ W, Below w.heap.size w W → Calls Tryz.prog 13 #[] W (fun e w' => e = .returned (.bool true) ∧ Below W.heap.size W w'))) :
  Calls Tryz.prog 4 #[nodeV n A c] w fun e w' => e = .returned (.bool true) ∧ Below w.heap.size w w' := by
 have HB := Aside0.mk (bel1 w (.cells (nodeA n A c) 44))
 have B1 := Aside0.mk (newBlk w (.cells (nodeA n A c) 44))
 go_enter Tryz.func4, Tryz.ntmps4
 go_wp2
 refine start_ (n := 13) (S := fun w' => w'.heap[w.heap.size]? = some (.cells (nodeA n A c) 44 (0, 0)) ∧ Below w.heap.size w w') (ds := []) (Array.replicate 13 false) (by kernel_rfl) rfl rfl ⟨blk_drew B1.out, below_drew1 HB.out⟩ (fun hHeld => ?_)
 refine with_tabW fchecks.tab1 fchecks.bits1 (fun HT_ HW_ => ?_)
 refine tz 0 3 HT_ HW_ (hr := (by rintro w' s0; exact partRun (cs := nodeA n A c) [] rfl rfl (s0.1) rfl Tryz.underlying44 rfl (by kernel_rfl))) (hS := hHeld) (h := ?_)
 refine oneI 1 (some 4) HT_ rfl rfl (by kernel_rfl) (by decide) (fun K hK => ?_)
 refine goes_ Tryz.func14 (by kernel_rfl) rfl #[nodeV n A c] (by (try simp only [List.map_toArray, List.map_cons, List.map_nil]); first | done | rfl) rfl rfl (by first | rfl | ((try simp only [List.map_toArray, List.map_cons, List.map_nil]); first | done | rfl)) ?_
 with_reducible refine (HD.out _ hHeld.2).mono ?_
 rintro e w9 ⟨rfl, hb⟩
 refine ⟨_, rfl, ?_⟩
 refine hK.out _ _ ⟨blk_below hHeld.1 hb, below_step hHeld.2 hb⟩ (fun hHeld => ?_)
 clear hK K
 refine nz 4 ?_
 refine pz 2 5 HT_ ?_; refine uz 3 6 HT_ ?_; refine uz 4 7 HT_ ?_; refine uz 5 8 HT_ ?_; refine uz 6 9 HT_ ?_; refine uz 7 10 HT_ ?_; refine pz 8 11 HT_ ?_; refine pz 9 12 HT_ ?_
 refine oneI 10 (some 13) HT_ rfl rfl (by kernel_rfl) (by decide) (fun K hK => ?_)
 refine goes_ Tryz.func13 (by kernel_rfl) rfl #[] (by (try simp only [List.map_toArray, List.map_cons, List.map_nil]); first | done | rfl) rfl rfl (by first | rfl | ((try simp only [List.map_toArray, List.map_cons, List.map_nil]); first | done | rfl)) ?_
 with_reducible refine (HL.out _ hHeld.2).mono ?_
 rintro e w9 ⟨rfl, hb⟩
 refine ⟨_, rfl, ?_⟩
 refine hK.out _ _ ⟨blk_below hHeld.1 hb, below_step hHeld.2 hb⟩ (fun hHeld => ?_)
 clear hK K
 refine nz 13 ?_
 refine pz 11 14 HT_ ?_; refine pz 12 2 HT_ ?_
 refine done_ (done_of HT_.out (by kernel_rfl)) ?_
 have HF := Aside0.mk hHeld.2
 clear hHeld
 go_wp2
 go_ret
 exact ⟨rfl, HF.out⟩
theorem fchecks_go (n : Nd) (A : Option Addr) (c : Nat) (q : Int) (w : World)
  (HD : Aside0 (∀ W, Below w.heap.size w W → Calls Tryz.prog 14 #[nodeV n A c] W (fun e w' => e = .returned (.bool false) ∧ Below W.heap.size W w')))
  (HL : Aside0 (∀ W, Below w.heap.size w W → Calls Tryz.prog 13 #[] W (fun e w' => e = .returned (.bool true) ∧ Below W.heap.size W w')))
  (HC : Aside0 (∀ W, Below w.heap.size w W → Calls Tryz.prog 15 #[nodeV n A c] W (fun e w' => e = .returned (.int .i64 q) ∧ Below W.heap.size W w')))
  (HRC : Aside0 (∀ W, Below w.heap.size w W → Calls Tryz.prog 16 #[nodeV n A c] W (fun e w' => e = .returned (.int .i64 q) ∧ Below W.heap.size W w'))) :
  Calls Tryz.prog 4 #[nodeV n A c] w fun e w' => e = .returned (.bool true) ∧ Below w.heap.size w w' := by
 have HB := Aside0.mk (bel1 w (.cells (nodeA n A c) 44))
 have B1 := Aside0.mk (newBlk w (.cells (nodeA n A c) 44))
 go_enter Tryz.func4, Tryz.ntmps4
 go_wp2
 refine start_ (n := 13) (S := fun w' => w'.heap[w.heap.size]? = some (.cells (nodeA n A c) 44 (0, 0)) ∧ Below w.heap.size w w') (ds := []) (Array.replicate 13 false) (by kernel_rfl) rfl rfl ⟨blk_drew B1.out, below_drew1 HB.out⟩ (fun hHeld => ?_)
 refine with_tabW fchecks.tab1 fchecks.bits1 (fun HT_ HW_ => ?_)
 refine tz 0 3 HT_ HW_ (hr := (by rintro w' s0; exact partRun (cs := nodeA n A c) [] rfl rfl (s0.1) rfl Tryz.underlying44 rfl (by kernel_rfl))) (hS := hHeld) (h := ?_)
 refine oneI 1 (some 4) HT_ rfl rfl (by kernel_rfl) (by decide) (fun K hK => ?_)
 refine goes_ Tryz.func14 (by kernel_rfl) rfl #[nodeV n A c] (by (try simp only [List.map_toArray, List.map_cons, List.map_nil]); first | done | rfl) rfl rfl (by first | rfl | ((try simp only [List.map_toArray, List.map_cons, List.map_nil]); first | done | rfl)) ?_
 with_reducible refine (HD.out _ hHeld.2).mono ?_
 rintro e w9 ⟨rfl, hb⟩
 refine ⟨_, rfl, ?_⟩
 refine hK.out _ _ ⟨blk_below hHeld.1 hb, below_step hHeld.2 hb⟩ (fun hHeld => ?_)
 clear hK K
 refine nz 4 ?_
 refine pz 2 5 HT_ ?_
 refine tz 3 6 HT_ HW_ (hr := (by rintro w' s0; exact partRun (cs := nodeA n A c) [] rfl rfl (s0.1) rfl Tryz.underlying44 rfl (by kernel_rfl))) (hS := hHeld) (h := ?_)
 refine tz 5 8 HT_ HW_ (hr := (by rintro w' s0; exact partRun (cs := nodeA n A c) [] rfl rfl (s0.1) rfl Tryz.underlying44 rfl (by kernel_rfl))) (hS := hHeld) (h := ?_)
 refine oneI 4 (some 7) HT_ rfl rfl (by kernel_rfl) (by decide) (fun K hK => ?_)
 refine goes_ Tryz.func15 (by kernel_rfl) rfl #[nodeV n A c] (by (try simp only [List.map_toArray, List.map_cons, List.map_nil]); first | done | rfl) rfl rfl (by first | rfl | ((try simp only [List.map_toArray, List.map_cons, List.map_nil]); first | done | rfl)) ?_
 with_reducible refine (HC.out _ hHeld.2).mono ?_
 rintro e w9 ⟨rfl, hb⟩
 refine ⟨_, rfl, ?_⟩
 refine hK.out _ _ ⟨blk_below hHeld.1 hb, below_step hHeld.2 hb⟩ (fun hHeld => ?_)
 clear hK K
 refine nz 7 ?_
 refine oneI 6 (some 9) HT_ rfl rfl (by kernel_rfl) (by decide) (fun K hK => ?_)
 refine goes_ Tryz.func16 (by kernel_rfl) rfl #[nodeV n A c] (by (try simp only [List.map_toArray, List.map_cons, List.map_nil]); first | done | rfl) rfl rfl (by first | rfl | ((try simp only [List.map_toArray, List.map_cons, List.map_nil]); first | done | rfl)) ?_
 with_reducible refine (HRC.out _ hHeld.2).mono ?_
 rintro e w9 ⟨rfl, hb⟩
 refine ⟨_, rfl, ?_⟩
 refine hK.out _ _ ⟨blk_below hHeld.1 hb, below_step hHeld.2 hb⟩ (fun hHeld => ?_)
 clear hK K
 refine nz 9 ?_
 refine pz 7 10 HT_ ?_; refine pz 8 11 HT_ ?_; refine pz 9 12 HT_ ?_
 refine oneI 10 (some 13) HT_ rfl rfl (by kernel_rfl) (by decide) (fun K hK => ?_)
 refine goes_ Tryz.func13 (by kernel_rfl) rfl #[] (by (try simp only [List.map_toArray, List.map_cons, List.map_nil]); first | done | rfl) rfl rfl (by first | rfl | ((try simp only [List.map_toArray, List.map_cons, List.map_nil]); first | done | rfl)) ?_
 with_reducible refine (HL.out _ hHeld.2).mono ?_
 rintro e w9 ⟨rfl, hb⟩
 refine ⟨_, rfl, ?_⟩
 refine hK.out _ _ ⟨blk_below hHeld.1 hb, below_step hHeld.2 hb⟩ (fun hHeld => ?_)
 clear hK K
 refine nz 13 ?_
 refine pz 11 14 HT_ ?_; refine pz 12 2 HT_ ?_
 refine done_ (done_of HT_.out (by kernel_rfl)) ?_
 have HF := Aside0.mk hHeld.2
 clear hHeld
 go_wp2
 go_ret
 exact ⟨rfl, HF.out⟩
def frects.T5 : Bool × List (List Nat × List Nat) := (true, [([], []), ([], []), ([0, 1], [0, 1]), ([2, 2], [2]), ([3], [3]), ([3], [3]), ([4, 5, 3], [3, 4, 5]), ([3, 6], [3, 6]), ([7, 3], [7]), ([8], [8]), ([8], [8]), ([9, 10, 8, 8], [8, 9, 10]), ([8], [8]), ([8], [8]), ([12, 13, 11, 8], [8, 12, 13]), ([11, 14, 8], [8, 11, 14]), ([8, 15], [8, 15]), ([16, 14], [16]), ([17, 17], [17]), ([17, 18], [17, 18]), ([19, 18, 0, 1, 2, 3, 4, 5, 6, 7, 8, 9, 10, 11, 12, 13, 14, 15, 16, 17, 18, 19], [19])])
def frects.B5 : List Nat := [0, 0, 3, 7, 15, 15, 63, 127, 255, 511, 511, 2047, 511, 511, 16383, 32767, 65535, 131071, 262143, 524287, 1048575]
theorem frects.tab5 : rtab .any (opsOf Tryz.f5 5) = frects.T5 := by kernel_rfl
theorem frects.bits5 : waitsOk frects.T5.2 frects.B5 = true := by kernel_rfl
theorem frects_deep (n : Nd) (A : Option Addr) (c : Nat) (name : ByteArray) (w : World)
  (HD : Aside0 (∀ W, Below w.heap.size w W → Calls Tryz.prog 14 #[nodeV n A c] W (fun e w' => e = .returned (.bool true) ∧ Below W.heap.size W w')))
  (HL : Aside0 (∀ W, Below w.heap.size w W → Calls Tryz.prog 13 #[] W (fun e w' => e = .returned (.bool true) ∧ Below W.heap.size W w'))) :
  Calls Tryz.prog 5 #[nodeV n A c, .string name] w fun e w' => e = .returned (.bool true) ∧ Below w.heap.size w w' := by
 have HB := Aside0.mk (bel1 w (.cells (nodeA n A c) 44))
 have B1 := Aside0.mk (newBlk w (.cells (nodeA n A c) 44))
 go_enter Tryz.func5, Tryz.ntmps5
 go_wp2_with (first
  | ((with_reducible refine gate_dst (N := 9) rfl ?_); refine wpPartLd 9 rfl rfl 44 (.tmp 2) rfl _ rfl _ (nodeA n A c) [] (B1.out) rfl Tryz.underlying44 rfl (by kernel_rfl) ?_)
  | (go_at_call 14; (with_reducible refine (HD.out _ (bel1 w _)).mono ?_); rintro e w1 ⟨rfl, hb⟩; have HB_1 := Aside0.mk (below_step HB.out hb); have n_1 := Aside0.mk (blk_below B1.out hb); clear hb HB B1)
  | (go_at_call 13; (with_reducible refine (HL.out _ HB_1.out).mono ?_); rintro e w2 ⟨rfl, hb⟩; have HB_2 := Aside0.mk (below_step HB_1.out hb); have n_2 := Aside0.mk (blk_below n_1.out hb); clear hb HB_1 n_1))
 go_ret
 exact ⟨rfl, HB_2.out⟩
theorem frects_go (n : Nd) (A : Option Addr) (c : Nat) (name : ByteArray) (q : Int) (u : Bool) (l : List S_R) (w : World)
  (HD : Aside0 (∀ W, Below w.heap.size w W → Calls Tryz.prog 14 #[nodeV n A c] W (fun e w' => e = .returned (.bool false) ∧ Below W.heap.size W w')))
  (HL : Aside0 (∀ W, Below w.heap.size w W → Calls Tryz.prog 13 #[] W (fun e w' => e = .returned (.bool true) ∧ Below W.heap.size W w')))
  (HR1 : Aside0 (∀ W, Below w.heap.size w W → Calls Tryz.prog 17 #[nodeV n A c] W (RectsOut l q W)))
  (HR2 : Aside0 (∀ W, Below w.heap.size w W → Calls Tryz.prog 18 #[nodeV n A c] W (RectsOut l q W)))
  (HS : Aside0 (∀ W A_ c_ B_ e_, l.length ≤ c_ → l.length ≤ e_ → Kd.C k58 W A_ l.length l → Kd.C k58 W B_ l.length l → Calls Tryz.prog 19 #[.slice A_ l.length c_, .slice B_ l.length e_] W (fun e w' => e = .returned (.bool true) ∧ Below W.heap.size W w')))
  (HU : Aside0 (∀ W, Below w.heap.size w W → Calls Tryz.prog 20 #[nodeV n A c, .string name] W (fun e w' => e = .returned (.bool u) ∧ Below W.heap.size W w')))
  (HRU : Aside0 (∀ W, Below w.heap.size w W → Calls Tryz.prog 21 #[nodeV n A c, .string name] W (fun e w' => e = .returned (.bool u) ∧ Below W.heap.size W w'))) :
  Calls Tryz.prog 5 #[nodeV n A c, .string name] w fun e w' => e = .returned (.bool true) ∧ Below w.heap.size w w' := by
 have HB := Aside0.mk (bel1 w (.cells (nodeA n A c) 44))
 have B1 := Aside0.mk (newBlk w (.cells (nodeA n A c) 44))
 go_enter Tryz.func5, Tryz.ntmps5
 go_wp2_with (first
  | ((with_reducible refine gate_dst (N := 9) rfl ?_); refine wpPartLd 9 rfl rfl 44 (.tmp 2) rfl _ rfl _ (nodeA n A c) [] (B1.out) rfl Tryz.underlying44 rfl (by kernel_rfl) ?_)
  | (go_at_call 14; (with_reducible refine (HD.out _ (bel1 w _)).mono ?_); rintro e w1 ⟨rfl, hb⟩; have HB_1 := Aside0.mk (below_step HB.out hb); have n_1 := Aside0.mk (blk_below B1.out hb); clear hb HB B1)
  | ((with_reducible refine gate_dst (N := 13) rfl ?_); refine wpPartLd 13 rfl rfl 44 (.tmp 2) rfl _ rfl _ (nodeA n A c) [] (n_1.out) rfl Tryz.underlying44 rfl (by kernel_rfl) ?_)
  | (go_at_call 17; (with_reducible refine (HR1.out _ HB_1.out).mono ?_); rintro e w2 ⟨A5, c5, rfl, hl5, hC5, hb⟩; have HB_2 := Aside0.mk (below_step HB_1.out hb); have n_2 := Aside0.mk (blk_below n_1.out hb); have HC5 := Aside0.mk hC5; have HL5 := Aside0.mk hl5; clear hC5 hl5; clear hb HB_1 n_1)
  | ((with_reducible refine gate_dst (N := 18) rfl ?_); refine wpPartLd 18 rfl rfl 44 (.tmp 2) rfl _ rfl _ (nodeA n A c) [] (n_2.out) rfl Tryz.underlying44 rfl (by kernel_rfl) ?_)
  | (go_at_call 18; (with_reducible refine (HR2.out _ HB_2.out).mono ?_); rintro e w3 ⟨A6, c6, rfl, hl6, hC6, hb⟩; have HB_3 := Aside0.mk (below_step HB_2.out hb); have n_3 := Aside0.mk (blk_below n_2.out hb); have HC6 := Aside0.mk hC6; have HL6 := Aside0.mk hl6; have HC7 := Aside0.mk (Kd.C_below HC5.out hb); clear hC6 hl6 HC5; clear hb HB_2 n_2))
 refine start_ (n := 21) (S := fun w' => w'.heap[w.heap.size]? = some (.cells (nodeA n A c) 44 (0, 0)) ∧ Below w.heap.size w w' ∧ Kd.C k58 w' A5 l.length l ∧ Kd.C k58 w' A6 l.length l) (ds := []) (Array.replicate 21 false) (by kernel_rfl) rfl rfl ⟨blk_drew n_3.out, below_drew1 HB_3.out, Kd.C_drew HC7.out, Kd.C_drew HC6.out⟩ (fun hHeld => ?_)
 refine with_tabW frects.tab5 frects.bits5 (fun HT_ HW_ => ?_)
 refine pz 0 22 HT_ ?_; refine pz 1 23 HT_ ?_
 refine oneI 2 (some 24) HT_ rfl rfl (by kernel_rfl) (by decide) (fun K hK => ?_)
 refine goes_ Tryz.func19 (by kernel_rfl) rfl #[.slice A5 l.length c5, .slice A6 l.length c6] (by (try simp only [List.map_toArray, List.map_cons, List.map_nil]); first | done | rfl) rfl rfl (by first | rfl | ((try simp only [List.map_toArray, List.map_cons, List.map_nil]); first | done | rfl)) ?_
 with_reducible refine (HS.out _ _ _ _ _ HL5.out HL6.out hHeld.2.2.1 hHeld.2.2.2).mono ?_
 rintro e w9 ⟨rfl, hb⟩
 refine ⟨_, rfl, ?_⟩
 refine hK.out _ _ ⟨blk_below hHeld.1 hb, below_step hHeld.2.1 hb, Kd.C_below hHeld.2.2.1 hb, Kd.C_below hHeld.2.2.2 hb⟩ (fun hHeld => ?_)
 clear hK K
 refine nz 24 ?_
 refine pz 3 25 HT_ ?_; refine pz 4 26 HT_ ?_; refine pz 5 27 HT_ ?_; refine pz 6 28 HT_ ?_; refine pz 7 29 HT_ ?_; refine pz 8 30 HT_ ?_; refine pz 10 32 HT_ ?_; refine pz 13 35 HT_ ?_
 refine tz 9 31 HT_ HW_ (hr := (by rintro w' s0; exact partRun (cs := nodeA n A c) [] rfl rfl (s0.1) rfl Tryz.underlying44 rfl (by kernel_rfl))) (hS := hHeld) (h := ?_)
 refine tz 12 34 HT_ HW_ (hr := (by rintro w' s0; exact partRun (cs := nodeA n A c) [] rfl rfl (s0.1) rfl Tryz.underlying44 rfl (by kernel_rfl))) (hS := hHeld) (h := ?_)
 refine oneI 11 (some 33) HT_ rfl rfl (by kernel_rfl) (by decide) (fun K hK => ?_)
 refine goes_ Tryz.func20 (by kernel_rfl) rfl #[nodeV n A c, .string name] (by (try simp only [List.map_toArray, List.map_cons, List.map_nil]); first | done | rfl) rfl rfl (by first | rfl | ((try simp only [List.map_toArray, List.map_cons, List.map_nil]); first | done | rfl)) ?_
 with_reducible refine (HU.out _ hHeld.2.1).mono ?_
 rintro e w9 ⟨rfl, hb⟩
 refine ⟨_, rfl, ?_⟩
 refine hK.out _ _ ⟨blk_below hHeld.1 hb, below_step hHeld.2.1 hb, Kd.C_below hHeld.2.2.1 hb, Kd.C_below hHeld.2.2.2 hb⟩ (fun hHeld => ?_)
 clear hK K
 refine nz 33 ?_
 refine oneI 14 (some 36) HT_ rfl rfl (by kernel_rfl) (by decide) (fun K hK => ?_)
 refine goes_ Tryz.func21 (by kernel_rfl) rfl #[nodeV n A c, .string name] (by (try simp only [List.map_toArray, List.map_cons, List.map_nil]); first | done | rfl) rfl rfl (by first | rfl | ((try simp only [List.map_toArray, List.map_cons, List.map_nil]); first | done | rfl)) ?_
 with_reducible refine (HRU.out _ hHeld.2.1).mono ?_
 rintro e w9 ⟨rfl, hb⟩
 refine ⟨_, rfl, ?_⟩
 refine hK.out _ _ ⟨blk_below hHeld.1 hb, below_step hHeld.2.1 hb, Kd.C_below hHeld.2.2.1 hb, Kd.C_below hHeld.2.2.2 hb⟩ (fun hHeld => ?_)
 clear hK K
 refine nz 36 ?_
 refine pz 15 37 HT_ ?_; refine pz 16 38 HT_ ?_; refine pz 17 39 HT_ ?_
 refine oneI 18 (some 40) HT_ rfl rfl (by kernel_rfl) (by decide) (fun K hK => ?_)
 refine goes_ Tryz.func13 (by kernel_rfl) rfl #[] (by (try simp only [List.map_toArray, List.map_cons, List.map_nil]); first | done | rfl) rfl rfl (by first | rfl | ((try simp only [List.map_toArray, List.map_cons, List.map_nil]); first | done | rfl)) ?_
 with_reducible refine (HL.out _ hHeld.2.1).mono ?_
 rintro e w9 ⟨rfl, hb⟩
 refine ⟨_, rfl, ?_⟩
 refine hK.out _ _ ⟨blk_below hHeld.1 hb, below_step hHeld.2.1 hb, Kd.C_below hHeld.2.2.1 hb, Kd.C_below hHeld.2.2.2 hb⟩ (fun hHeld => ?_)
 clear hK K
 refine nz 40 ?_
 refine pz 19 41 HT_ ?_; refine pz 20 4 HT_ ?_
 refine done_ (done_of HT_.out (by kernel_rfl)) ?_
 have HF := Aside0.mk hHeld.2.1
 clear hHeld
 go_wp2
 go_ret
 exact ⟨rfl, HF.out⟩
theorem ffinds_go (name nm : ByteArray) (lo hi z : Int) (V : List Int) (w : World)
  (HFa : Aside0 (∀ W, Below w.heap.size w W → Calls Tryz.prog 10 #[.string name] W (FormOut nm lo hi V z W)))
  (HFb : Aside0 (∀ W, Below w.heap.size w W → Calls Tryz.prog 11 #[.string name] W (FormOut nm lo hi V z W)))
  (HS : Aside0 (∀ W A_ c_ B_ e_, V.length ≤ c_ → V.length ≤ e_ → Kd.C (Kd.int .i64) W A_ V.length V → Kd.C (Kd.int .i64) W B_ V.length V → Calls Tryz.prog 12 #[.agg #[.string nm, .int .i64 lo, .int .i64 hi, .slice A_ V.length c_], .agg #[.string nm, .int .i64 lo, .int .i64 hi, .slice B_ V.length e_]] W (fun e w' => e = .returned (.bool true) ∧ Below W.heap.size W w')))
  (HL : Aside0 (∀ W, Below w.heap.size w W → Calls Tryz.prog 13 #[] W (fun e w' => e = .returned (.bool true) ∧ Below W.heap.size W w'))) :
  Calls Tryz.prog 3 #[.string name] w fun e w' => e = .returned (.bool true) ∧ Below w.heap.size w w' := by
 have HB := Aside0.mk (Below.refl w.heap.size w)
 go_enter Tryz.func3, Tryz.ntmps3
 go_wp2_with (first
  | (go_at_call 10; (with_reducible refine (HFa.out _ HB.out).mono ?_); rintro e w1 ⟨A2, c2, rfl, hl2, hC2, hb⟩; have HB_1 := Aside0.mk (below_step HB.out hb); have HC2 := Aside0.mk hC2; have HL2 := Aside0.mk hl2; clear hC2 hl2; clear hb HB)
  | ((with_reducible refine gate_store (t := 24) (p := 3) (v := .tmp 10) rfl ?_); refine wpRowSt rfl 24 (.tmp 3) (.tmp 10) rfl (w1.heap.size) (#[.string nm, .int .i64 lo, .int .i64 hi, .slice A2 V.length c2]) rfl rfl 24 _ (newBlk w1 _) (by kernel_rfl) rfl rfl ?_; have HB_2 := Aside0.mk (rowBelow (below_alloc HB_1.out (.cells #[.string ⟨#[]⟩, .int .i64 0, .int .i64 0, .slice none 0 0] 24)) HB_1.out.size (#[.string nm, .int .i64 lo, .int .i64 hi, .slice A2 V.length c2])); have p_2 := Aside0.mk (setRow_heap _ _ _ (#[.string nm, .int .i64 lo, .int .i64 hi, .slice A2 V.length c2]) _ _ (newBlk w1 (.cells #[.string ⟨#[]⟩, .int .i64 0, .int .i64 0, .slice none 0 0] 24))); clear HB_1; have HC3 := Aside0.mk (Kd.C_below HC2.out (rowBelow (bel1 w1 (.cells #[.string ⟨#[]⟩, .int .i64 0, .int .i64 0, .slice none 0 0] 24)) (Nat.le_refl _) (#[.string nm, .int .i64 lo, .int .i64 hi, .slice A2 V.length c2]))); clear HC2)
  | (go_at_call 11; (with_reducible refine (HFb.out _ HB_2.out).mono ?_); rintro e w2 ⟨A4, c4, rfl, hl4, hC4, hb⟩; have HB_3 := Aside0.mk (below_step HB_2.out hb); have p_3 := Aside0.mk (blk_below p_2.out hb); have HC4 := Aside0.mk hC4; have HL4 := Aside0.mk hl4; have HC5 := Aside0.mk (Kd.C_below HC3.out hb); clear hC4 hl4 HC3; clear hb HB_2 p_2)
  | ((with_reducible refine gate_store (t := 24) (p := 5) (v := .tmp 15) rfl ?_); refine wpRowSt rfl 24 (.tmp 5) (.tmp 15) rfl (w2.heap.size) (#[.string nm, .int .i64 lo, .int .i64 hi, .slice A4 V.length c4]) rfl rfl 24 _ (newBlk w2 _) (by kernel_rfl) rfl rfl ?_; have HB_4 := Aside0.mk (rowBelow (below_alloc HB_3.out (.cells #[.string ⟨#[]⟩, .int .i64 0, .int .i64 0, .slice none 0 0] 24)) HB_3.out.size (#[.string nm, .int .i64 lo, .int .i64 hi, .slice A4 V.length c4])); have p_4 := Aside0.mk (rowNew p_3.out (.cells #[.string ⟨#[]⟩, .int .i64 0, .int .i64 0, .slice none 0 0] 24) (#[.string nm, .int .i64 lo, .int .i64 hi, .slice A4 V.length c4])); have Np_r := Aside0.mk (Nat.ne_of_lt (blk_lt p_3.out)); have r_4 := Aside0.mk (setRow_heap _ _ _ (#[.string nm, .int .i64 lo, .int .i64 hi, .slice A4 V.length c4]) _ _ (newBlk w2 (.cells #[.string ⟨#[]⟩, .int .i64 0, .int .i64 0, .slice none 0 0] 24))); clear HB_3 p_3; have HC6 := Aside0.mk (Kd.C_below HC5.out (rowBelow (bel1 w2 (.cells #[.string ⟨#[]⟩, .int .i64 0, .int .i64 0, .slice none 0 0] 24)) (Nat.le_refl _) (#[.string nm, .int .i64 lo, .int .i64 hi, .slice A4 V.length c4]))); have HC7 := Aside0.mk (Kd.C_below HC4.out (rowBelow (bel1 w2 (.cells #[.string ⟨#[]⟩, .int .i64 0, .int .i64 0, .slice none 0 0] 24)) (Nat.le_refl _) (#[.string nm, .int .i64 lo, .int .i64 hi, .slice A4 V.length c4]))); clear HC4 HC5)
  | ((with_reducible refine gate_dst (N := 17) rfl ?_); refine wpPartLd 17 rfl rfl 24 (.tmp 3) rfl _ rfl _ (#[.string nm, .int .i64 lo, .int .i64 hi, .slice A2 V.length c2]) [] (p_4.out) rfl Tryz.underlying24 rfl (by kernel_rfl) ?_)
  | ((with_reducible refine gate_dst (N := 18) rfl ?_); refine wpPartLd 18 rfl rfl 24 (.tmp 5) rfl _ rfl _ (#[.string nm, .int .i64 lo, .int .i64 hi, .slice A4 V.length c4]) [] (r_4.out) rfl Tryz.underlying24 rfl (by kernel_rfl) ?_)
  | (go_at_call 12; (with_reducible refine (HS.out _ _ _ _ _ HL2.out HL4.out HC6.out HC7.out).mono ?_); rintro e w3 ⟨rfl, hb⟩; have HB_5 := Aside0.mk (below_step HB_4.out hb); have p_5 := Aside0.mk (blk_below p_4.out hb); have r_5 := Aside0.mk (blk_below r_4.out hb); clear hb HB_4 p_4 r_4)
  | (go_at_call 13; (with_reducible refine (HL.out _ HB_5.out).mono ?_); rintro e w4 ⟨rfl, hb⟩; have HB_6 := Aside0.mk (below_step HB_5.out hb); have p_6 := Aside0.mk (blk_below p_5.out hb); have r_6 := Aside0.mk (blk_below r_5.out hb); clear hb HB_5 p_5 r_5))
 go_ret
 exact ⟨rfl, HB_6.out⟩
theorem same9_l0 (nm : ByteArray) (lo hi : Int) (V : List Int) (hV : V.length ≤ 1000000) : ∀ (k i : Nat), i ≤ V.length → V.length < i + k → foolscapref09_Same.l0 k (i : Int) nm lo hi V nm lo hi V = some true
 | 0, i, hi', h => by exfalso; omega
 | k + 1, i, hi', h => by
  rw [foolscapref09_Same.l0]
  by_cases h1 : i < V.length
  ·rw [if_pos (by omega), if_pos (by omega), if_pos (by omega), if_pos rfl, show wrap64 ((i : Int) + 1) = ((i + 1 : Nat) : Int) by unfold wrap64; omega]
   exact same9_l0 nm lo hi V hV k (i + 1) (by omega) (by omega)
  ·rw [if_neg (by omega)]
theorem same9 (nm : ByteArray) (lo hi : Int) (V : List Int) (hV : V.length ≤ 1000000) : foolscapref09_Same.f (V.length + 2) nm lo hi V nm lo hi V = some true := by
 unfold foolscapref09_Same.f
 rw [if_pos rfl, if_pos rfl, if_pos rfl, foolscapref09_Same.j0, if_neg (by simp)]
 exact same9_l0 nm lo hi V hV _ 0 (Nat.zero_le _) (by omega)
theorem FormsFinds_walk (name : ByteArray) (w : World) (h0 : name.size ≤ 140737488351232) (hL0 : Aside0 (LaidW w)) :
  Calls Tryz.prog 3 #[.string name] w fun e w' => e = .returned (.bool true) ∧ Below w.heap.size w w' := by
 have HL : Aside0 (∀ W, Below w.heap.size w W → Calls Tryz.prog 13 #[] W fun e w' => e = .returned (.bool true) ∧ Below W.heap.size W w') := ⟨fun W hW => lives_calls W (LaidAt hL0 hW)⟩
 have main : ∀ (nm : ByteArray) (lo hi z : Int) (V : List Int), V.length ≤ 1000000 → (∀ W, Below w.heap.size w W → Calls Tryz.prog 10 #[.string name] W (FormOut nm lo hi V z W)) → (∀ W, Below w.heap.size w W → Calls Tryz.prog 11 #[.string name] W (FormOut nm lo hi V z W)) →
   Calls Tryz.prog 3 #[.string name] w fun e w' => e = .returned (.bool true) ∧ Below w.heap.size w w' := fun nm lo hi z V hV h1 h2 =>
  ffinds_go name nm lo hi z V w ⟨h1⟩ ⟨h2⟩ ⟨fun W A_ c_ B_ e_ l1 l2 k1 k2 => foolscapref09_Same.calls (V.length + 2) nm lo hi A_ c_ V nm lo hi B_ e_ V true W k1 l1 k2 l2 (same9 nm lo hi V hV)⟩ HL
 have f1 := fun W (hW : Below w.heap.size w W) => find_calls name W (LaidAt hL0 hW)
 have f2 := fun W (_ : Below w.heap.size w W) => refFind_calls name W
 cases hT : findT name with
 | none =>
  rw [hT] at f1 f2
  exact main _ 0 0 8 [] (by simp) f1 f2
 | some f =>
  rw [hT] at f1 f2
  exact main _ f.lo f.hi 0 f.wants (by have := (findT_wants hT).2.2; omega) f1 f2
theorem deep9 {n : Nd} {A : Option Addr} {c : Nat} {w : World} (hK : KidsC w A c n.f5) {b : Bool} (h : (depthI n == 0) = b) : Aside0 (∀ W, Below w.heap.size w W → Calls Tryz.prog 14 #[nodeV n A c] W fun e w' => e = .returned (.bool b) ∧ Below W.heap.size W w') :=
 ⟨fun W hW => by have := deep_calls n A c W (hK.below hW); rwa [h] at this⟩
theorem lives9 {w : World} (hL0 : Aside0 (LaidW w)) : Aside0 (∀ W, Below w.heap.size w W → Calls Tryz.prog 13 #[] W fun e w' => e = .returned (.bool true) ∧ Below W.heap.size W w') := ⟨fun W hW => lives_calls W (LaidAt hL0 hW)⟩
theorem check9 {n : Nd} {A : Option Addr} {c : Nat} {w : World} (hK : KidsC w A c n.f5) (hL0 : Aside0 (LaidW w)) : Aside0 (∀ W, Below w.heap.size w W → Calls Tryz.prog 15 #[nodeV n A c] W fun e w' => e = .returned (.int .i64 (checkN n)) ∧ Below W.heap.size W w') := ⟨fun W hW => formsCheck_calls n A c W (hK.below hW) (LaidAt hL0 hW)⟩
theorem FormsChecks_walk (n : Nd) (A : Option Addr) (c : Nat) (w : World) (hK : KidsC w A c n.f5) (hL0 : Aside0 (LaidW w)) :
  Calls Tryz.prog 4 #[nodeV n A c] w fun e w' => e = .returned (.bool true) ∧ Below w.heap.size w w' := by
 cases hd : depthI n == 0 with
 | true => exact fchecks_deep n A c w (deep9 hK hd) (lives9 hL0)
 | false => exact fchecks_go n A c (checkN n) w (deep9 hK hd) (lives9 hL0) (check9 hK hL0) ⟨fun W hW => by have := refCheck_calls n A c W (hK.below hW); rwa [checkD_eq] at this⟩
theorem srects9_l0 (l : List S_R) (hl : l.length ≤ 1000000) : ∀ (k i : Nat), i ≤ l.length → l.length < i + k → foolscapref09_SameRects.l0 k l l (i : Int) = some true
 | 0, i, hi', h => by exfalso; omega
 | k + 1, i, hi', h => by
  rw [foolscapref09_SameRects.l0]
  by_cases h1 : i < l.length
  ·rw [if_pos (by omega), if_pos (by omega), if_pos (by omega), if_neg (by simp), show wrap64 ((i : Int) + 1) = ((i + 1 : Nat) : Int) by unfold wrap64; omega]
   exact srects9_l0 l hl k (i + 1) (by omega) (by omega)
  ·rw [if_neg (by omega)]
theorem rectsL_length (n : Nd) : (rectsL n).length ≤ 4096 := by
 unfold rectsL
 by_cases h : checkI n = 0
 ·rw [if_pos h]
  exact Nat.le_trans (outS_length _) (pre_few h)
 ·rw [if_neg h]; simp
theorem FormsRects_walk (n : Nd) (A : Option Addr) (c : Nat) (name : ByteArray) (w : World) (hK : KidsC w A c n.f5) (h1 : name.size ≤ 140737488351232) (hL0 : Aside0 (LaidW w)) :
  Calls Tryz.prog 5 #[nodeV n A c, .string name] w fun e w' => e = .returned (.bool true) ∧ Below w.heap.size w w' := by
 cases hd : depthI n == 0 with
 | true => exact frects_deep n A c name w (deep9 hK hd) (lives9 hL0)
 | false =>
  refine frects_go n A c name (checkI n) (checkI n == 0 && (preN n).any (callB name)) (rectsL n) w (deep9 hK hd) (lives9 hL0) ⟨fun W hW => rects_calls n A c W (hK.below hW) (LaidAt hL0 hW)⟩ ⟨fun W hW => refRects_calls n A c W (hK.below hW)⟩ ⟨fun W A_ c_ B_ e_ l1 l2 k1 k2 => ?_⟩ ⟨fun W hW => uses_calls n A c name W (hK.below hW) (LaidAt hL0 hW)⟩ ⟨fun W hW => refUses_calls n A c name W (hK.below hW)⟩
  refine (foolscapref09_SameRects.calls ((rectsL n).length + 1) A_ c_ (rectsL n) B_ e_ (rectsL n) true W k1 l1 k2 l2 ?_).mono ?_
  rotate_left
  ·rintro e w' ⟨rfl, m, rfl⟩
   exact ⟨rfl, pw_below_drewN (Below.refl _ _) _⟩
  unfold foolscapref09_SameRects.f
  rw [if_pos rfl]
  exact srects9_l0 _ (Nat.le_trans (rectsL_length n) (by omega)) _ 0 (Nat.zero_le _) (by omega)
def uint_ix (k : Int) (n : Nat) : Nat := (k % 18446744073709551616).toNat % n
theorem u64w (k : Int) : IntKind.u64.wrap k = k % 18446744073709551616 := by simp [IntKind.wrap, IntKind.bits, IntKind.signed]
theorem u64len {n : Nat} (h : n ≤ 9223372036854775807) : IntKind.u64.wrap (n : Int) = (n : Int) := by rw [u64w]; omega
theorem i64w {n : Nat} (h : n ≤ 9223372036854775807) : IntKind.i64.wrap (n : Int) = (n : Int) := by
 simp [IntKind.wrap, IntKind.bits, IntKind.signed]
 omega
theorem uint_tmod (k : Int) {n : Nat} (h : n ≤ 9223372036854775807) : (IntKind.u64.wrap k).tmod (n : Int) = (uint_ix k n : Int) := by
 rw [u64w]
 have h0 : 0 ≤ k % 18446744073709551616 := by omega
 obtain ⟨m, hm⟩ := Int.eq_ofNat_of_zero_le h0
 unfold uint_ix
 rw [hm, Int.toNat_natCast, Int.ofNat_tmod]
theorem uint_lt (k : Int) {n : Nat} (h : 0 < n) : uint_ix k n < n := Nat.mod_lt _ h
def fkids.T5 : Bool × List (List Nat × List Nat) := (true, [([], []), ([0], [0]), ([], []), ([2], [2]), ([], []), ([4], [4]), ([5], [5]), ([6], [6]), ([3, 7], [3, 7]), ([8], [8]), ([1, 9], [1, 9]), ([10], [10]), ([11], [11]), ([12], [12]), ([13, 12], [13]), ([14, 14], [14]), ([14, 15], [14, 15]), ([16, 15, 0, 1, 2, 3, 4, 5, 6, 7, 8, 9, 10, 11, 12, 13, 14, 15, 16], [16])])
def fkids.B5 : List Nat := [0, 1, 0, 4, 0, 16, 48, 112, 252, 508, 1023, 2047, 4095, 8191, 16383, 32767, 65535, 131071]
theorem fkids.tab5 : rtab .any (opsOf Tryz.f6 5) = fkids.T5 := by kernel_rfl
theorem fkids.bits5 : waitsOk fkids.T5.2 fkids.B5 = true := by kernel_rfl
theorem fkids_deep (n : Nd) (k : Int) (A : Option Addr) (c : Nat) (w : World)
  (HD : Aside0 (∀ W, Below w.heap.size w W → Calls Tryz.prog 14 #[nodeV n A c] W (fun e w' => e = .returned (.bool true) ∧ Below W.heap.size W w')))
  (HL : Aside0 (∀ W, Below w.heap.size w W → Calls Tryz.prog 13 #[] W (fun e w' => e = .returned (.bool true) ∧ Below W.heap.size W w'))) :
  Calls Tryz.prog 6 #[nodeV n A c, .int .i64 k] w fun e w' => e = .returned (.bool true) ∧ Below w.heap.size w w' := by
 have HB := Aside0.mk (bel1 w (.cells (nodeA n A c) 44))
 have B1 := Aside0.mk (newBlk w (.cells (nodeA n A c) 44))
 have hb1 := fun (i : Nat) => blk_cell (newBlk w (.cells (nodeA n A c) 44)) i
 go_enter Tryz.func6, Tryz.ntmps6
 go_wp2_with (first
  | ((with_reducible refine gate_dst (N := 5) rfl ?_); refine wpPartLd 5 rfl rfl 44 (.tmp 2) rfl _ rfl _ (nodeA n A c) [] (B1.out) rfl Tryz.underlying44 rfl (by kernel_rfl) ?_)
  | (go_at_call 14; (with_reducible refine (HD.out _ (bel1 w _)).mono ?_); rintro e w1 ⟨rfl, hb⟩; have HB_1 := Aside0.mk (below_step HB.out hb); have n_1 := Aside0.mk (blk_below B1.out hb); clear hb HB B1)
  | (go_at_call 13; (with_reducible refine (HL.out _ HB_1.out).mono ?_); rintro e w2 ⟨rfl, hb⟩; have HB_2 := Aside0.mk (below_step HB_1.out hb); have n_2 := Aside0.mk (blk_below n_1.out hb); clear hb HB_1 n_1))
 go_ret
 exact ⟨rfl, HB_2.out⟩
theorem fkids_bad (n : Nd) (k : Int) (A : Option Addr) (c : Nat) (q : Int) (hq : ¬q = 0) (w : World)
  (HD : Aside0 (∀ W, Below w.heap.size w W → Calls Tryz.prog 14 #[nodeV n A c] W (fun e w' => e = .returned (.bool false) ∧ Below W.heap.size W w')))
  (HL : Aside0 (∀ W, Below w.heap.size w W → Calls Tryz.prog 13 #[] W (fun e w' => e = .returned (.bool true) ∧ Below W.heap.size W w')))
  (HC : Aside0 (∀ W, Below w.heap.size w W → Calls Tryz.prog 15 #[nodeV n A c] W (fun e w' => e = .returned (.int .i64 q) ∧ Below W.heap.size W w'))) :
  Calls Tryz.prog 6 #[nodeV n A c, .int .i64 k] w fun e w' => e = .returned (.bool true) ∧ Below w.heap.size w w' := by
 have q1 : (q != 0) = true := by simp [hq]
 have HB := Aside0.mk (bel1 w (.cells (nodeA n A c) 44))
 have B1 := Aside0.mk (newBlk w (.cells (nodeA n A c) 44))
 have hb1 := fun (i : Nat) => blk_cell (newBlk w (.cells (nodeA n A c) 44)) i
 go_enter Tryz.func6, Tryz.ntmps6
 go_wp2_with (first
  | ((with_reducible refine gate_dst (N := 5) rfl ?_); refine wpPartLd 5 rfl rfl 44 (.tmp 2) rfl _ rfl _ (nodeA n A c) [] (B1.out) rfl Tryz.underlying44 rfl (by kernel_rfl) ?_)
  | (go_at_call 14; (with_reducible refine (HD.out _ (bel1 w _)).mono ?_); rintro e w1 ⟨rfl, hb⟩; have HB_1 := Aside0.mk (below_step HB.out hb); have n_1 := Aside0.mk (blk_below B1.out hb); clear hb1; clear hb HB B1)
  | ((with_reducible refine gate_dst (N := 8) rfl ?_); (refine gate_guard (by rfl) ?_; dsimp only); refine wpPartLd 8 rfl rfl 44 (.tmp 2) rfl _ rfl _ (nodeA n A c) [] (n_1.out) rfl Tryz.underlying44 rfl (by kernel_rfl) ?_)
  | (go_at_call 15; (with_reducible refine (HC.out _ HB_1.out).mono ?_); rintro e w2 ⟨rfl, hb⟩; have HB_2 := Aside0.mk (below_step HB_1.out hb); have n_2 := Aside0.mk (blk_below n_1.out hb); clear hb HB_1 n_1)
  | (go_at_call 13; (with_reducible refine (HL.out _ HB_2.out).mono ?_); rintro e w3 ⟨rfl, hb⟩; have HB_3 := Aside0.mk (below_step HB_2.out hb); have n_3 := Aside0.mk (blk_below n_2.out hb); clear hb HB_2 n_2))
 go_ret
 exact ⟨rfl, HB_3.out⟩
theorem fkids_none (n : Nd) (k : Int) (A : Option Addr) (c : Nat) (h0 : n.f5.length = 0) (w : World)
  (HD : Aside0 (∀ W, Below w.heap.size w W → Calls Tryz.prog 14 #[nodeV n A c] W (fun e w' => e = .returned (.bool false) ∧ Below W.heap.size W w')))
  (HL : Aside0 (∀ W, Below w.heap.size w W → Calls Tryz.prog 13 #[] W (fun e w' => e = .returned (.bool true) ∧ Below W.heap.size W w')))
  (HC : Aside0 (∀ W, Below w.heap.size w W → Calls Tryz.prog 15 #[nodeV n A c] W (fun e w' => e = .returned (.int .i64 0) ∧ Below W.heap.size W w'))) :
  Calls Tryz.prog 6 #[nodeV n A c, .int .i64 k] w fun e w' => e = .returned (.bool true) ∧ Below w.heap.size w w' := by
 have h0b : ((n.f5.length : Int) == 0) = true := by simp [h0]
 have HB := Aside0.mk (bel1 w (.cells (nodeA n A c) 44))
 have B1 := Aside0.mk (newBlk w (.cells (nodeA n A c) 44))
 have hb1 := fun (i : Nat) => blk_cell (newBlk w (.cells (nodeA n A c) 44)) i
 go_enter Tryz.func6, Tryz.ntmps6
 go_wp2_with (first
  | ((with_reducible refine gate_dst (N := 5) rfl ?_); refine wpPartLd 5 rfl rfl 44 (.tmp 2) rfl _ rfl _ (nodeA n A c) [] (B1.out) rfl Tryz.underlying44 rfl (by kernel_rfl) ?_)
  | (go_at_call 14; (with_reducible refine (HD.out _ (bel1 w _)).mono ?_); rintro e w1 ⟨rfl, hb⟩; have HB_1 := Aside0.mk (below_step HB.out hb); have n_1 := Aside0.mk (blk_below B1.out hb); clear hb1; clear hb HB B1)
  | ((with_reducible refine gate_dst (N := 8) rfl ?_); (refine gate_guard (by rfl) ?_; dsimp only); refine wpPartLd 8 rfl rfl 44 (.tmp 2) rfl _ rfl _ (nodeA n A c) [] (n_1.out) rfl Tryz.underlying44 rfl (by kernel_rfl) ?_)
  | (go_at_call 15; (with_reducible refine (HC.out _ HB_1.out).mono ?_); rintro e w2 ⟨rfl, hb⟩; have HB_2 := Aside0.mk (below_step HB_1.out hb); have n_2 := Aside0.mk (blk_below n_1.out hb); clear hb HB_1 n_1; have h_n := fun i => blk_cell n_2.out i)
  | (go_at_call 13; (with_reducible refine (HL.out _ HB_2.out).mono ?_); rintro e w3 ⟨rfl, hb⟩; have HB_3 := Aside0.mk (below_step HB_2.out hb); have n_3 := Aside0.mk (blk_below n_2.out hb); clear hb HB_2 n_2 h_n))
 go_ret
 exact ⟨rfl, HB_3.out⟩
theorem fkids_go (n : Nd) (k : Int) (A : Option Addr) (c : Nat) (w : World) (hK : KidsC w A c n.f5) (h0 : ¬n.f5.length = 0)
  (HD : Aside0 (∀ W, Below w.heap.size w W → Calls Tryz.prog 14 #[nodeV n A c] W (fun e w' => e = .returned (.bool false) ∧ Below W.heap.size W w')))
  (HL : Aside0 (∀ W, Below w.heap.size w W → Calls Tryz.prog 13 #[] W (fun e w' => e = .returned (.bool true) ∧ Below W.heap.size W w')))
  (HC : Aside0 (∀ W, Below w.heap.size w W → Calls Tryz.prog 15 #[nodeV n A c] W (fun e w' => e = .returned (.int .i64 0) ∧ Below W.heap.size W w')))
  (HCk : Aside0 (∀ W A_ c_, Below w.heap.size w W → KidsC W A_ c_ (n.f5[uint_ix k n.f5.length]'(uint_lt k (by omega))).f5 → Calls Tryz.prog 15 #[nodeV (n.f5[uint_ix k n.f5.length]'(uint_lt k (by omega))) A_ c_] W (fun e w' => e = .returned (.int .i64 0) ∧ Below W.heap.size W w'))) :
  Calls Tryz.prog 6 #[nodeV n A c, .int .i64 k] w fun e w' => e = .returned (.bool true) ∧ Below w.heap.size w w' := by
 have h0b : ((n.f5.length : Int) == 0) = false := beq_eq_false_iff_ne.2 (by omega)
 have hmax0 := hK.2.2.1
 have HB := Aside0.mk (bel1 w (.cells (nodeA n A c) 44))
 have B1 := Aside0.mk (newBlk w (.cells (nodeA n A c) 44))
 have hb1 := fun (i : Nat) => blk_cell (newBlk w (.cells (nodeA n A c) 44)) i
 go_enter Tryz.func6, Tryz.ntmps6
 go_wp2_with (first
  | ((with_reducible refine gate_dst (N := 5) rfl ?_); refine wpPartLd 5 rfl rfl 44 (.tmp 2) rfl _ rfl _ (nodeA n A c) [] (B1.out) rfl Tryz.underlying44 rfl (by kernel_rfl) ?_)
  | (go_at_call 14; (with_reducible refine (HD.out _ (bel1 w _)).mono ?_); rintro e w1 ⟨rfl, hb⟩; have HB_1 := Aside0.mk (below_step HB.out hb); have n_1 := Aside0.mk (blk_below B1.out hb); clear hb1; clear hb HB B1)
  | ((with_reducible refine gate_dst (N := 8) rfl ?_); (refine gate_guard (by rfl) ?_; dsimp only); refine wpPartLd 8 rfl rfl 44 (.tmp 2) rfl _ rfl _ (nodeA n A c) [] (n_1.out) rfl Tryz.underlying44 rfl (by kernel_rfl) ?_)
  | (go_at_call 15; (with_reducible refine (HC.out _ HB_1.out).mono ?_); rintro e w2 ⟨rfl, hb⟩; have HB_2 := Aside0.mk (below_step HB_1.out hb); have n_2 := Aside0.mk (blk_below n_1.out hb); clear hb HB_1 n_1; have h_n := fun i => blk_cell n_2.out i))
 have hu1 := u64len hmax0
 have hu2 := uint_tmod k hmax0
 have hu3 : ¬((n.f5.length : Int) = 0) := by omega
 have hu4 : ((uint_ix k n.f5.length : Nat) : Int) < (n.f5.length : Int) := by have := uint_lt k (n := n.f5.length) (by omega); omega
 have hu5 : IntKind.i64.wrap ((uint_ix k n.f5.length : Nat) : Int) = ((uint_ix k n.f5.length : Nat) : Int) := i64w (by have := uint_lt k (n := n.f5.length) (by omega); omega)
 have hu6 : wrap64 ((uint_ix k n.f5.length : Nat) : Int) = ((uint_ix k n.f5.length : Nat) : Int) := by unfold wrap64; omega
 obtain ⟨ad, A', c', e, hK', hCA⟩ := kid_at hK.2 (uint_ix k n.f5.length) (uint_lt k (by omega))
 subst e
 have HK' := Aside0.mk hK'
 have HCA := Aside0.mk hCA
 clear hK' hCA hK
 refine start_ (n := 18) (S := fun w' => w'.heap[w.heap.size]? = some (.cells (nodeA n (some ad) c) 44 (0, 0)) ∧ Below w.heap.size w w') (ds := []) (Array.replicate 18 false) (by kernel_rfl) rfl rfl ⟨blk_drew n_2.out, below_drew1 HB_2.out⟩ (fun hHeld => ?_)
 refine with_tabW fkids.tab5 fkids.bits5 (fun HT_ HW_ => ?_)
 refine pz 0 18 HT_ ?_; refine pz 2 20 HT_ ?_; refine pz 3 21 HT_ ?_; refine pz 4 22 HT_ ?_
 refine tz 1 19 HT_ HW_ (hr := (by rintro w' s0; have s0_ := fun i => blk_cell s0.1 i; go_simp; with_reducible rfl)) (hS := hHeld) (h := ?_)
 refine tz 5 23 HT_ HW_ (hr := (by rintro w' s0; have s0_ := fun i => blk_cell s0.1 i; go_simp; with_reducible rfl)) (hS := hHeld) (h := ?_)
 refine pz 6 24 HT_ ?_; refine pz 7 25 HT_ ?_; refine pz 8 26 HT_ ?_; refine pz 9 27 HT_ ?_; refine pz 10 28 HT_ ?_
 refine tz 11 29 HT_ HW_ (hr := (by rintro w' s0; exact rowRunAt rfl rfl (HCA.out.below s0.2) Tryz.underlying44 rfl (by kernel_rfl))) (hS := hHeld) (h := ?_)
 refine oneI 12 (some 30) HT_ rfl rfl (by kernel_rfl) (by decide) (fun K hK => ?_)
 refine goes_ Tryz.func15 (by kernel_rfl) rfl #[nodeV (n.f5[uint_ix k n.f5.length]'(uint_lt k (by omega))) A' c'] (by (try simp only [List.map_toArray, List.map_cons, List.map_nil]); first | done | rfl) rfl rfl (by first | rfl | ((try simp only [List.map_toArray, List.map_cons, List.map_nil]); first | done | rfl)) ?_
 with_reducible refine (HCk.out _ _ _ hHeld.2 (HK'.out.below (hHeld.2))).mono ?_
 rintro e w9 ⟨rfl, hb⟩
 refine ⟨_, rfl, ?_⟩
 refine hK.out _ _ ⟨blk_below hHeld.1 hb, below_step hHeld.2 hb⟩ (fun hHeld => ?_)
 clear hK K
 refine nz 30 ?_
 refine pz 13 31 HT_ ?_; refine pz 14 32 HT_ ?_
 refine oneI 15 (some 33) HT_ rfl rfl (by kernel_rfl) (by decide) (fun K hK => ?_)
 refine goes_ Tryz.func13 (by kernel_rfl) rfl #[] (by (try simp only [List.map_toArray, List.map_cons, List.map_nil]); first | done | rfl) rfl rfl (by first | rfl | ((try simp only [List.map_toArray, List.map_cons, List.map_nil]); first | done | rfl)) ?_
 with_reducible refine (HL.out _ hHeld.2).mono ?_
 rintro e w9 ⟨rfl, hb⟩
 refine ⟨_, rfl, ?_⟩
 refine hK.out _ _ ⟨blk_below hHeld.1 hb, below_step hHeld.2 hb⟩ (fun hHeld => ?_)
 clear hK K
 refine nz 33 ?_
 refine pz 16 34 HT_ ?_; refine pz 17 4 HT_ ?_
 refine done_ (done_of HT_.out (by kernel_rfl)) ?_
 have HF := Aside0.mk hHeld.2
 clear hHeld
 go_wp2
 go_ret
 exact ⟨rfl, HF.out⟩
theorem checkN_kid {n : Nd} (h : checkN n = 0) {k : Nat} (hk : k < n.f5.length) : checkN n.f5[k] = 0 := by
 unfold checkN at h ⊢
 by_cases h1 : checkI n = 0
 ·rw [if_pos h1] at h
  rw [if_pos (check_kid h1 (List.getElem_mem hk))]
  rw [firstE_zero] at h ⊢
  exact fun x hx => h x (pre_kid hk x hx)
 ·rw [if_neg h1] at h
  exact absurd h h1
theorem FormsKids_walk (n : Nd) (A : Option Addr) (c : Nat) (k : Int) (w : World) (hK : KidsC w A c n.f5) (w1 : (Lit.int .i64 k).wf = true) (hL0 : Aside0 (LaidW w)) :
  Calls Tryz.prog 6 #[nodeV n A c, .int .i64 k] w fun e w' => e = .returned (.bool true) ∧ Below w.heap.size w w' := by
 cases hd : depthI n == 0 with
 | true => exact fkids_deep n k A c w (deep9 hK hd) (lives9 hL0)
 | false =>
  by_cases hc : checkN n = 0
  ·have HC := check9 hK hL0
   rw [hc] at HC
   by_cases h0 : n.f5.length = 0
   ·exact fkids_none n k A c h0 w (deep9 hK hd) (lives9 hL0) HC
   ·refine fkids_go n k A c w hK h0 (deep9 hK hd) (lives9 hL0) HC ⟨fun W A_ c_ hW h => ?_⟩
    have := formsCheck_calls _ A_ c_ W h (LaidAt hL0 hW)
    rwa [checkN_kid hc (uint_lt k (by omega))] at this
  ·exact fkids_bad n k A c _ hc w (deep9 hK hd) (lives9 hL0) (check9 hK hL0)
end Go.Proofs.YtopdjokncbpghaaGreatDoor.Pr
end
