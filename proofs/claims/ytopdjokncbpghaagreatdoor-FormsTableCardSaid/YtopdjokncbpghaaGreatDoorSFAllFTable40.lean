/-
  Lemmas for the law FAllFTable.
-/
import Derived.Test.YtopdjokncbpghaaGreatDoorSFAllFTable33
import Derived.Test.YtopdjokncbpghaaGreatDoorSFAllFTable24
import Derived.Laws.Cover1
import Derived.Sort.Walk0
set_option maxHeartbeats 8000000
set_option maxRecDepth 100000
set_option linter.unusedVariables false
set_option linter.unusedSimpArgs false
section
namespace Go.Proofs.YtopdjokncbpghaaGreatDoor.Pr
open Go.RowKit Go.Proofs.YtopdjokncbpghaaGreatDoorW.PrintWords Go.Proofs.YtopdjokncbpghaaGreatDoorW.PrintLast Go.Proofs.YtopdjokncbpghaaGreatDoorW.PrintMore
theorem isNaN9 (a : ByteArray) (w : World) : Calls Tryz.prog 89 #[.string a] w fun e w' => e = .returned (.bool false) ∧ w' = w := by
 have h1 : (a.toList == a.toList) = true := beq_self_eq_true _
 go_enter Tryz.func89, Tryz.ntmps89
 go_wp2
 go_ret
 exact ⟨rfl, rfl⟩
def cmp9 (a b : ByteArray) : Int := if Op.bytesLess a.toList b.toList = true then -1 else if a.toList = b.toList then 0 else 1
theorem compare9 (a b : ByteArray) (w : World) : Calls Tryz.prog 66 #[.string a, .string b] w fun e w' => e = .returned (.int .i64 (cmp9 a b)) ∧ w' = w := by
 unfold cmp9
 have h1 := isNaN9 a
 have h2 := isNaN9 b
 generalize hz : Op.bytesLess a.toList b.toList = z
 by_cases hq : a.toList = b.toList
 ·have hq2 : (a.toList == b.toList) = true := by rw [hq]; exact beq_self_eq_true _
  rw [if_pos hq]
  clear hq
  cases z
  ·rw [if_neg (by decide)]
   go_enter Tryz.func66, Tryz.ntmps66
   go_wp2_with (first | (go_at_call 89; (with_reducible refine (h1 _).mono ?_); rintro e w1 ⟨rfl, rfl⟩) | (go_at_call 89; (with_reducible refine (h2 _).mono ?_); rintro e w1 ⟨rfl, rfl⟩))
   go_ret
   exact ⟨rfl, rfl⟩
  ·rw [if_pos rfl]
   go_enter Tryz.func66, Tryz.ntmps66
   go_wp2_with (first | (go_at_call 89; (with_reducible refine (h1 _).mono ?_); rintro e w1 ⟨rfl, rfl⟩) | (go_at_call 89; (with_reducible refine (h2 _).mono ?_); rintro e w1 ⟨rfl, rfl⟩))
   go_ret
   exact ⟨rfl, rfl⟩
 ·have hq2 : (a.toList == b.toList) = false := by rw [beq_eq_false_iff_ne]; exact hq
  rw [if_neg hq]
  clear hq
  cases z
  ·rw [if_neg (by decide)]
   go_enter Tryz.func66, Tryz.ntmps66
   go_wp2_with (first | (go_at_call 89; (with_reducible refine (h1 _).mono ?_); rintro e w1 ⟨rfl, rfl⟩) | (go_at_call 89; (with_reducible refine (h2 _).mono ?_); rintro e w1 ⟨rfl, rfl⟩))
   go_ret
   exact ⟨rfl, rfl⟩
  ·rw [if_pos rfl]
   go_enter Tryz.func66, Tryz.ntmps66
   go_wp2_with (first | (go_at_call 89; (with_reducible refine (h1 _).mono ?_); rintro e w1 ⟨rfl, rfl⟩) | (go_at_call 89; (with_reducible refine (h2 _).mono ?_); rintro e w1 ⟨rfl, rfl⟩))
   go_ret
   exact ⟨rfl, rfl⟩
abbrev formA (n : ByteArray) (lo hi : Int) (p : Option Addr) (l c : Nat) : Array Value := #[.string n, .int .i64 lo, .int .i64 hi, .slice p l c]
theorem name9 (n : ByteArray) (lo hi : Int) (p : Option Addr) (l c : Nat) (w : World) : Calls Tryz.prog 46 #[.agg (formA n lo hi p l c)] w fun e w' => e = .returned (.string n) ∧ w' = w.alloc (.cells (formA n lo hi p l c) 24 (0, 0)) := by
 go_enter Tryz.func46, Tryz.ntmps46
 go_wp2
 go_ret
 exact ⟨rfl, rfl⟩
def sorted9.T1 : Bool × List (List Nat × List Nat) := (true, [([], []), ([], []), ([0, 1], [0, 1]), ([], []), ([], []), ([3, 4, 2], [3, 4]), ([2, 5, 5], [2, 5]), ([6, 6, 0, 1, 2, 3, 4, 5, 6], [6])])
def sorted9.B1 : List Nat := [0, 0, 3, 0, 0, 31, 63, 127]
theorem sorted9.tab1 : rtab .any (opsOf Tryz.f65 1) = sorted9.T1 := by kernel_rfl
theorem sorted9.bits1 : waitsOk sorted9.T1.2 sorted9.B1 = true := by kernel_rfl
theorem sorted1_calls (gc : Nat) (n m : ByteArray) (lo hi lo' hi' : Int) (p p' : Option Addr) (l c l' c' : Nat) (w : World) (HC : Aside0 (w.heap[gc]? = some (.cells #[.func (.func 46) #[] #[]] 87 (0, 0)))) :
  Calls Tryz.prog 65 #[.agg (formA n lo hi p l c), .agg (formA m lo' hi' p' l' c'), ptrV gc] w fun e w' => e = .returned (.int .i64 (cmp9 n m)) ∧ w' = ((((w.alloc (.cells (formA n lo hi p l c) 24 (0, 0))).alloc (.cells (formA m lo' hi' p' l' c') 24 (0, 0))).alloc (.cells (formA n lo hi p l c) 24 (0, 0))).alloc (.cells (formA m lo' hi' p' l' c') 24 (0, 0))).drew := by
 go_enter Tryz.func65, Tryz.ntmps65
 go_wp2
 trace_state
 refine start_ (n := 8) (S := (fun w' => w'.heap[gc]? = some (.cells #[.func (.func 46) #[] #[]] 87 (0, 0)) ∧ w'.heap[w.heap.size]? = some (.cells (formA n lo hi p l c) 24 (0, 0)) ∧ w'.heap[w.heap.size + 1]? = some (.cells (formA m lo' hi' p' l' c') 24 (0, 0)))) (ds := []) (Array.replicate 8 false) (by kernel_rfl) rfl rfl ⟨blk_drew (blk_alloc (blk_alloc HC.out _) _), blk_drew (blk_alloc (newBlk w _) _), blk_drew (newBlk2 w _ _)⟩ (fun hHeld => ?_)
 refine with_tabW sorted9.tab1 sorted9.bits1 (fun HT_ HW_ => ?_)
 refine tz 0 6 HT_ HW_ (hr := (by rintro w' s0; have q0 := fun i => blk_cell s0.1 i; have q1 := fun i => blk_cell s0.2.1 i; have q2 := fun i => blk_cell s0.2.2 i; go_simp; with_reducible rfl)) (hS := hHeld) (h := ?_)
 refine tz 1 7 HT_ HW_ (hr := (by rintro w' s0; have q0 := fun i => blk_cell s0.1 i; have q1 := fun i => blk_cell s0.2.1 i; have q2 := fun i => blk_cell s0.2.2 i; go_simp; with_reducible rfl)) (hS := hHeld) (h := ?_)
 refine tz 3 9 HT_ HW_ (hr := (by rintro w' s0; have q0 := fun i => blk_cell s0.1 i; have q1 := fun i => blk_cell s0.2.1 i; have q2 := fun i => blk_cell s0.2.2 i; go_simp; with_reducible rfl)) (hS := hHeld) (h := ?_)
 refine tz 4 10 HT_ HW_ (hr := (by rintro w' s0; have q0 := fun i => blk_cell s0.1 i; have q1 := fun i => blk_cell s0.2.1 i; have q2 := fun i => blk_cell s0.2.2 i; go_simp; with_reducible rfl)) (hS := hHeld) (h := ?_)
 refine oneI 2 (some 8) HT_ rfl rfl (by kernel_rfl) (by decide) (fun K hK => ?_)
 refine goesV_ Tryz.func46 (by kernel_rfl) rfl (.tmp 6) #[] #[.agg (formA n lo hi p l c)] #[.agg (formA n lo hi p l c)] (by first | rfl | ((try simp only [List.map_toArray, List.map_cons, List.map_nil]); first | done | rfl)) rfl rfl (by rfl) (by (try simp only [List.map_toArray, List.map_cons, List.map_nil]); first | done | rfl) rfl ?_
 with_reducible refine (name9 _ _ _ _ _ _ _).mono ?_
 rintro e w2 ⟨rfl, rfl⟩
 refine ⟨_, rfl, ?_⟩
 refine hK.out _ _ ⟨blk_alloc hHeld.1 _, blk_alloc hHeld.2.1 _, blk_alloc hHeld.2.2 _⟩ (fun hHeld => ?_)
 clear hK K
 refine nz 8 ?_
 refine oneI 5 (some 11) HT_ rfl rfl (by kernel_rfl) (by decide) (fun K hK => ?_)
 refine goesV_ Tryz.func46 (by kernel_rfl) rfl (.tmp 9) #[] #[.agg (formA m lo' hi' p' l' c')] #[.agg (formA m lo' hi' p' l' c')] (by first | rfl | ((try simp only [List.map_toArray, List.map_cons, List.map_nil]); first | done | rfl)) rfl rfl (by rfl) (by (try simp only [List.map_toArray, List.map_cons, List.map_nil]); first | done | rfl) rfl ?_
 with_reducible refine (name9 _ _ _ _ _ _ _).mono ?_
 rintro e w2 ⟨rfl, rfl⟩
 refine ⟨_, rfl, ?_⟩
 refine hK.out _ _ ⟨blk_alloc hHeld.1 _, blk_alloc hHeld.2.1 _, blk_alloc hHeld.2.2 _⟩ (fun hHeld => ?_)
 clear hK K
 refine nz 11 ?_
 refine oneI 6 (some 12) HT_ rfl rfl (by kernel_rfl) (by decide) (fun K hK => ?_)
 refine goes_ Tryz.func66 (by kernel_rfl) rfl #[.string n, .string m] (by (try simp only [List.map_toArray, List.map_cons, List.map_nil]); first | done | rfl) rfl rfl (by first | rfl | ((try simp only [List.map_toArray, List.map_cons, List.map_nil]); first | done | rfl)) ?_
 with_reducible refine (compare9 _ _ _).mono ?_
 rintro e w2 ⟨rfl, rfl⟩
 refine ⟨_, rfl, ?_⟩
 refine hK.out _ _ ⟨hHeld.1, hHeld.2.1, hHeld.2.2⟩ (fun hHeld => ?_)
 clear hK K
 refine nz 12 ?_
 refine pz 7 5 HT_ ?_
 refine done_ (done_of HT_.out (by kernel_rfl)) ?_
 go_wp2
 go_ret
 exact ⟨rfl, rfl⟩
end Go.Proofs.YtopdjokncbpghaaGreatDoor.Pr
end
