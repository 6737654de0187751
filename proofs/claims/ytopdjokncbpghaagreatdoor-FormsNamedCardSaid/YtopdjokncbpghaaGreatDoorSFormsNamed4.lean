/-
  Lemmas for the law FormsNamed.
-/
import Derived.Test.YtopdjokncbpghaaGreatDoorSFFindsFChecksFRectsFKids0
import Derived.Test.YtopdjokncbpghaaGreatDoorSFFindsFChecksFRectsFKids1
import Derived.Test.YtopdjokncbpghaaGreatDoorSFFindsFChecksFRectsFKids2
import Derived.Test.YtopdjokncbpghaaGreatDoorSFFindsFChecksFRectsFKids3
import Derived.Test.YtopdjokncbpghaaGreatDoorSFFindsFChecksFRectsFKids4
import Derived.Test.YtopdjokncbpghaaGreatDoorSFFindsFChecksFRectsFKids5
import Derived.Test.YtopdjokncbpghaaGreatDoorSFFindsFChecksFRectsFKids6
import Derived.Test.YtopdjokncbpghaaGreatDoorSFFindsFChecksFRectsFKids7
import Derived.Test.YtopdjokncbpghaaGreatDoorSFFindsFChecksFRectsFKids8
import Derived.Test.YtopdjokncbpghaaGreatDoorSFFindsFChecksFRectsFKids9
import Derived.Test.YtopdjokncbpghaaGreatDoorSFFindsFChecksFRectsFKids10
import Derived.Test.YtopdjokncbpghaaGreatDoorSFFindsFChecksFRectsFKids11
import Derived.Test.YtopdjokncbpghaaGreatDoorSFFindsFChecksFRectsFKids12
import Derived.Test.YtopdjokncbpghaaGreatDoorSFFindsFChecksFRectsFKids13
import Derived.Test.YtopdjokncbpghaaGreatDoorSFFindsFChecksFRectsFKids14
import Derived.Test.YtopdjokncbpghaaGreatDoorSFFindsFChecksFRectsFKids15
import Derived.Test.YtopdjokncbpghaaGreatDoorSFFindsFChecksFRectsFKids16
import Derived.Test.YtopdjokncbpghaaGreatDoorSFFindsFChecksFRectsFKids17
import Derived.Test.YtopdjokncbpghaaGreatDoorSFFindsFChecksFRectsFKids18
import Derived.Test.YtopdjokncbpghaaGreatDoorSFFindsFChecksFRectsFKids19
import Derived.Test.YtopdjokncbpghaaGreatDoorSFFindsFChecksFRectsFKids20
import Derived.Test.YtopdjokncbpghaaGreatDoorSFFindsFChecksFRectsFKids21
import Derived.Test.YtopdjokncbpghaaGreatDoorSFFindsFChecksFRectsFKids22
import Derived.Test.YtopdjokncbpghaaGreatDoorSFFindsFChecksFRectsFKids23
import Derived.Test.YtopdjokncbpghaaGreatDoorSFFindsFChecksFRectsFKids24
import Derived.Test.YtopdjokncbpghaaGreatDoorSFFindsFChecksFRectsFKids25
import Derived.Test.YtopdjokncbpghaaGreatDoorSFFindsFChecksFRectsFKids26
import Derived.Test.YtopdjokncbpghaaGreatDoorSFFindsFChecksFRectsFKids27
import Derived.Test.YtopdjokncbpghaaGreatDoorSFFindsFChecksFRectsFKids28
import Derived.Test.YtopdjokncbpghaaGreatDoorSFFindsFChecksFRectsFKids29
import Derived.Test.YtopdjokncbpghaaGreatDoorSFFindsFChecksFRectsFKids30
import Derived.Test.YtopdjokncbpghaaGreatDoorSFFindsFChecksFRectsFKids31
import Derived.Test.YtopdjokncbpghaaGreatDoorSFFindsFChecksFRectsFKids32
import Derived.Test.YtopdjokncbpghaaGreatDoorSFFindsFChecksFRectsFKids33
import Derived.Test.YtopdjokncbpghaaGreatDoorSFFindsFChecksFRectsFKids34
import Derived.Test.YtopdjokncbpghaaGreatDoorSFFindsFChecksFRectsFKids35
import Derived.Test.YtopdjokncbpghaaGreatDoorSFFindsFChecksFRectsFKids36
import Derived.Test.YtopdjokncbpghaaGreatDoorSFFindsFChecksFRectsFKids37
import Derived.Test.YtopdjokncbpghaaGreatDoorSFFindsFChecksFRectsFKids38
import Derived.Test.YtopdjokncbpghaaGreatDoorSFFindsFChecksFRectsFKids39
import Derived.Test.YtopdjokncbpghaaGreatDoorSFFindsFChecksFRectsFKids40
import Derived.Test.YtopdjokncbpghaaGreatDoorSFFindsFChecksFRectsFKids41
import Derived.Test.YtopdjokncbpghaaGreatDoorSFFindsFChecksFRectsFKids42
import Derived.Test.YtopdjokncbpghaaGreatDoorSFFindsFChecksFRectsFKids43
import Derived.Test.YtopdjokncbpghaaGreatDoorSFFindsFChecksFRectsFKids44
import Derived.Test.YtopdjokncbpghaaGreatDoorSFormsNamed0
import Derived.Test.YtopdjokncbpghaaGreatDoorSFormsNamed1
import Derived.Test.YtopdjokncbpghaaGreatDoorSFormsNamed3
import Derived.Test.YtopdjokncbpghaaGreatDoorSFormsNamed2
import Derived.ArgAppend
import Derived.Below
import Derived.BigQuiet
import Derived.BigRegion
import Derived.Deep.AppendLies
import Derived.Deep.CutBlock
import Derived.Deep.DeepCutAuto
import Derived.Deep.Draws
import Derived.Deep.LoopGhost
import Derived.Deep.OwnRows
import Derived.Deep.QuietTactic
import Derived.Deep.RegionHeld3
import Derived.Deep.RegionWith
import Derived.KernelRfl
import Derived.LaidLaws
import Derived.Laws.BitsLemmas
import Derived.Laws.BytesArg
import Derived.Laws.CopyOwn
import Derived.Laws.EntriesVeiled
import Derived.Laws.IdiomCopy
import Derived.Laws.IdiomStrings
import Derived.Laws.MakeOwn
import Derived.Laws.NewBlocks
import Derived.Laws.OwnMore
import Derived.Laws.RangeAny
import Derived.Laws.Rows
import Derived.Laws.Slices
import Derived.Laws.StructEq
import Derived.Laws.Tables
import Derived.Lib.AppendIntMem
import Derived.Lib.AppendStr
import Derived.Lib.ConvBytes
import Derived.Lib.ItoaLen
import Derived.Lib.ItoaNum
import Derived.Lib.LaidTab
import Derived.Lib.LaidU8
import Derived.Lib.Space
import Derived.Lib.Strings
import Derived.LoopIn
import Derived.LoopN
import Derived.LoopNIn
import Derived.LoopTactic
import Derived.Maps.AppendAt
import Derived.Maps.OwnIn
import Derived.OrdersHeld
import Derived.OwnWalk
import Derived.OwnWalkIn
import Derived.RangeFuncBound
import Derived.RangeFuncCalls
import Derived.RangeFuncLeaves
import Derived.RangeFuncNested
import Derived.RegionTactic
import Derived.RowKit
import Derived.RowKit3
import Derived.Shelf.Abstract
import Derived.Shelf.LaysM
import Derived.Shelf.RegionOpen
import Derived.Shelf.Slices.Turned
import Derived.Shelf.Small.Bits
import Derived.Shelf.Small.Strs
import Derived.Shelf.Small.Utf8
import Derived.Shelf.Strconv.Itoa0
import Derived.Shelf.Strconv.Itoa1
import Derived.Shelf.Strconv.Itoa2
import Derived.Shelf.Strconv.Itoa3
import Derived.Shelf.Strings.AsciiSet
import Derived.Shelf.Strings.Fields
import Derived.Shelf.Strings.Runes
import Derived.Shelf.Strings.Search1
import Derived.Shelf.Strings.SlTrimAscii
import Derived.Shelf.Strings.SplitShaped
import Derived.Shelf.Strings.Trim
import Derived.Shelf.Unicode.Decode
import Derived.Shelf.Unicode.DecodeAny
import Derived.Shelf.Unicode.DecodeLast
import Derived.Shelf.Unicode.DecodeSlow
import Derived.Shelf.Unicode.ExclAny
import Derived.Shelf.Unicode.Is16Any
import Derived.Shelf.Unicode.Is16White
import Derived.Shelf.Unicode.Is32Any
import Derived.Shelf.Unicode.IsSpaceAny
import Derived.Shelf.Unicode.Latin
import Derived.Tactics
import Derived.TacticsInMore
import Derived.Test.YtopdjokncbpghaaGreatDoorProg
import Derived.WalkKit
import Derived.WideLaws
set_option maxHeartbeats 8000000
set_option maxRecDepth 100000
set_option linter.unusedVariables false
set_option linter.unusedSimpArgs false
section
namespace Go.Proofs.YtopdjokncbpghaaGreatDoor.Pr
open Go.RowKit Go.Proofs.YtopdjokncbpghaaGreatDoorW.PrintWords Go.Proofs.YtopdjokncbpghaaGreatDoorW.PrintLast Go.Proofs.YtopdjokncbpghaaGreatDoorW.PrintMore
theorem rect_ite {R : Type} (K : Bool → R) (x y : S_R) : (if x.f0 = y.f0 then (if x.f1 = y.f1 then (if x.f2 = y.f2 then (if x.f3 = y.f3 then K true else K false) else K false) else K false) else K false) = K (decide (x = y)) := by
 cases x; cases y
 rename_i a b c d a' b' c' d'
 simp only [S58.mk.injEq]
 by_cases h1 : a = a' <;> by_cases h2 : b = b' <;> by_cases h3 : c = c' <;> by_cases h4 : d = d' <;> simp [h1, h2, h3, h4]
theorem any_take9 {l : List S_R} {j : Nat} (P : S_R → Bool) (h : j < l.length) : (l.take (j + 1)).any P = ((l.take j).any P || P l[j]) := by
 rw [List.take_succ_eq_append_getElem h, List.any_append]; simp
def fnamed12.T12 : Bool × List (List Nat × List Nat) := (true, [([], []), ([], []), ([0, 1], [0, 1]), ([2], [2]), ([], []), ([], []), ([4, 5], [4, 5]), ([6], [6]), ([3, 7], [3, 7])])
def fnamed12.B12 : List Nat := [0, 0, 3, 7, 0, 0, 48, 112, 255]
theorem fnamed12.tab12 : rtab .any (opsOf Tryz.f7 12) = fnamed12.T12 := by kernel_rfl
theorem fnamed12.bits12 : waitsOk fnamed12.T12.2 fnamed12.B12 = true := by kernel_rfl
def fnamed18.T18 : Bool × List (List Nat × List Nat) := (true, [([], []), ([0], [0]), ([], []), ([2], [2]), ([], []), ([4], [4]), ([5], [5]), ([6], [6]), ([3, 7], [3, 7]), ([8], [8]), ([1, 9], [1, 9]), ([10], [10]), ([11], [11]), ([12], [12]), ([13], [13]), ([13], [13]), ([14, 12, 0, 1, 2, 3, 4, 5, 6, 7, 8, 9, 10, 11, 12, 13, 14], [14]), ([15, 16, 0, 1, 2, 3, 4, 5, 6, 7, 8, 9, 10, 11, 12, 13, 14, 15, 16], [15])])
def fnamed18.B18 : List Nat := [0, 1, 0, 4, 0, 16, 48, 112, 252, 508, 1023, 2047, 4095, 8191, 16383, 16383, 32767, 131071]
theorem fnamed18.tab18 : rtab .any (opsOf Tryz.f7 18) = fnamed18.T18 := by kernel_rfl
theorem fnamed18.bits18 : waitsOk fnamed18.T18.2 fnamed18.B18 = true := by kernel_rfl
def fnamed26.T26 : Bool × List (List Nat × List Nat) := (true, [([], []), ([0], [0]), ([1], [1]), ([1], [1]), ([2, 3, 1], [1, 2, 3]), ([4, 1], [1, 4]), ([1], [1]), ([1], [1]), ([6, 7, 1], [1, 6, 7]), ([8, 1], [1, 8]), ([5, 9, 1], [1, 5, 9]), ([1, 10], [1, 10]), ([11, 1, 0, 1, 2, 3, 4, 5, 6, 7, 8, 9, 10, 11], [0, 11])])
def fnamed26.B26 : List Nat := [0, 1, 3, 3, 15, 31, 3, 3, 195, 451, 1023, 2047, 4095]
theorem fnamed26.tab26 : rtab .any (opsOf Tryz.f7 26) = fnamed26.T26 := by kernel_rfl
theorem fnamed26.bits26 : waitsOk fnamed26.T26.2 fnamed26.B26 = true := by kernel_rfl
theorem fnamed_deep (n : Nd) (k : Int) (A : Option Addr) (c : Nat) (w : World)
  (HD : Aside0 (∀ W, Below w.heap.size w W → Calls Tryz.prog 14 #[nodeV n A c] W (fun e w' => e = .returned (.bool true) ∧ Below W.heap.size W w')))
  (HL : Aside0 (∀ W, Below w.heap.size w W → Calls Tryz.prog 13 #[] W (fun e w' => e = .returned (.bool true) ∧ Below W.heap.size W w'))) :
  Calls Tryz.prog 7 #[nodeV n A c, .int .i64 k] w fun e w' => e = .returned (.bool true) ∧ Below w.heap.size w w' := by
 have HB := Aside0.mk (bel1 w (.cells (nodeA n A c) 44))
 have B1 := Aside0.mk (newBlk w (.cells (nodeA n A c) 44))
 go_enter Tryz.func7, Tryz.ntmps7
 go_wp2_with (first
  | ((with_reducible refine gate_dst (N := 14) rfl ?_); refine wpPartLd 14 rfl rfl 44 (.tmp 2) rfl _ rfl _ (nodeA n A c) [] (B1.out) rfl Tryz.underlying44 rfl (by kernel_rfl) ?_)
  | (go_at_call 14; (with_reducible refine (HD.out _ (bel1 w _)).mono ?_); rintro e w1 ⟨rfl, hb⟩; have HB_1 := Aside0.mk (below_step HB.out hb); have n_1 := Aside0.mk (blk_below B1.out hb); clear hb HB B1)
  | (go_at_call 13; (with_reducible refine (HL.out _ HB_1.out).mono ?_); rintro e w2 ⟨rfl, hb⟩; have HB_2 := Aside0.mk (below_step HB_1.out hb); have n_2 := Aside0.mk (blk_below n_1.out hb); clear hb HB_1 n_1))
 go_ret
 exact ⟨rfl, HB_2.out⟩
theorem fnamed_bad (n : Nd) (k : Int) (A : Option Addr) (c : Nat) (q : Int) (hq : ¬q = 0) (w : World)
  (HD : Aside0 (∀ W, Below w.heap.size w W → Calls Tryz.prog 14 #[nodeV n A c] W (fun e w' => e = .returned (.bool false) ∧ Below W.heap.size W w')))
  (HL : Aside0 (∀ W, Below w.heap.size w W → Calls Tryz.prog 13 #[] W (fun e w' => e = .returned (.bool true) ∧ Below W.heap.size W w')))
  (HR1 : Aside0 (∀ W, Below w.heap.size w W → Calls Tryz.prog 17 #[nodeV n A c] W (RectsOut [] q W))) :
  Calls Tryz.prog 7 #[nodeV n A c, .int .i64 k] w fun e w' => e = .returned (.bool true) ∧ Below w.heap.size w w' := by
 have q1 : (q != 0) = true := by simp [hq]
 have HB := Aside0.mk (bel1 w (.cells (nodeA n A c) 44))
 have B1 := Aside0.mk (newBlk w (.cells (nodeA n A c) 44))
 go_enter Tryz.func7, Tryz.ntmps7
 go_wp2_with (first
  | ((with_reducible refine gate_dst (N := 14) rfl ?_); refine wpPartLd 14 rfl rfl 44 (.tmp 2) rfl _ rfl _ (nodeA n A c) [] (B1.out) rfl Tryz.underlying44 rfl (by kernel_rfl) ?_)
  | (go_at_call 14; (with_reducible refine (HD.out _ (bel1 w _)).mono ?_); rintro e w1 ⟨rfl, hb⟩; have HB_1 := Aside0.mk (below_step HB.out hb); have n_1 := Aside0.mk (blk_below B1.out hb); clear hb HB B1)
  | ((with_reducible refine gate_dst (N := 18) rfl ?_); refine wpPartLd 18 rfl rfl 44 (.tmp 2) rfl _ rfl _ (nodeA n A c) [] (n_1.out) rfl Tryz.underlying44 rfl (by kernel_rfl) ?_)
  | (go_at_call 17; (with_reducible refine (HR1.out _ HB_1.out).mono ?_); rintro e w2 ⟨A5, c5, rfl, hl5, hC5, hb⟩; have HB_2 := Aside0.mk (below_step HB_1.out hb); have n_2 := Aside0.mk (blk_below n_1.out hb); have HC5 := Aside0.mk hC5; clear hC5 hl5; clear hb HB_1 n_1)
  | (go_at_call 13; (with_reducible refine (HL.out _ HB_2.out).mono ?_); rintro e w3 ⟨rfl, hb⟩; have HB_3 := Aside0.mk (below_step HB_2.out hb); have n_3 := Aside0.mk (blk_below n_2.out hb); clear hb HB_2 n_2))
 go_ret
 exact ⟨rfl, HB_3.out⟩
theorem fnamed_go (n : Nd) (k : Int) (A : Option Addr) (c : Nat) (l : List S_R) (w : World) (hK0 : KidsC w A c n.f5) (hl : l.length ≤ 4096) (hnd : l.Nodup)
  (HD : Aside0 (∀ W, Below w.heap.size w W → Calls Tryz.prog 14 #[nodeV n A c] W (fun e w' => e = .returned (.bool false) ∧ Below W.heap.size W w')))
  (HL : Aside0 (∀ W, Below w.heap.size w W → Calls Tryz.prog 13 #[] W (fun e w' => e = .returned (.bool true) ∧ Below W.heap.size W w')))
  (HR1 : Aside0 (∀ W, Below w.heap.size w W → Calls Tryz.prog 17 #[nodeV n A c] W (RectsOut l 0 W)))
  (HP : Aside0 (∀ W, ∀ x ∈ l, Calls Tryz.prog 22 #[.agg #[.int .i64 x.f0, .int .i64 x.f1, .int .i64 x.f2, .int .i64 x.f3]] W (fun e w' => e = .returned (.int .i64 0) ∧ Below W.heap.size W w')))
  (HRk0 : Aside0 (∀ h0 : ¬n.f5.length = 0, ∀ W A_ c_, Below w.heap.size w W → KidsC W A_ c_ (n.f5[uint_ix k n.f5.length]'(uint_lt k (by omega))).f5 → Calls Tryz.prog 17 #[nodeV (n.f5[uint_ix k n.f5.length]'(uint_lt k (by omega))) A_ c_] W (RectsOut (rectsL (n.f5[uint_ix k n.f5.length]'(uint_lt k (by omega)))) 0 W)))
  (hsub0 : ∀ h0 : ¬n.f5.length = 0, ∀ x ∈ rectsL (n.f5[uint_ix k n.f5.length]'(uint_lt k (by omega))), x ∈ l) (hml0 : ∀ h0 : ¬n.f5.length = 0, (rectsL (n.f5[uint_ix k n.f5.length]'(uint_lt k (by omega)))).length ≤ 4096) :
  Calls Tryz.prog 7 #[nodeV n A c, .int .i64 k] w fun e w' => e = .returned (.bool true) ∧ Below w.heap.size w w' := by
 have hmax0 := hK0.2.2.1
 have HK0 := Aside0.mk hK0
 clear hK0
 have HB := Aside0.mk (bel1 w (.cells (nodeA n A c) 44))
 have B1 := Aside0.mk (newBlk w (.cells (nodeA n A c) 44))
 go_enter Tryz.func7, Tryz.ntmps7
 go_wp2_with (first
  | ((with_reducible refine gate_dst (N := 14) rfl ?_); refine wpPartLd 14 rfl rfl 44 (.tmp 2) rfl _ rfl _ (nodeA n A c) [] (B1.out) rfl Tryz.underlying44 rfl (by kernel_rfl) ?_)
  | (go_at_call 14; (with_reducible refine (HD.out _ (bel1 w _)).mono ?_); rintro e w1 ⟨rfl, hb⟩; have HB_1 := Aside0.mk (below_step HB.out hb); have n_1 := Aside0.mk (blk_below B1.out hb); clear hb HB B1)
  | ((with_reducible refine gate_dst (N := 18) rfl ?_); refine wpPartLd 18 rfl rfl 44 (.tmp 2) rfl _ rfl _ (nodeA n A c) [] (n_1.out) rfl Tryz.underlying44 rfl (by kernel_rfl) ?_)
  | (go_at_call 17; (with_reducible refine (HR1.out _ HB_1.out).mono ?_); rintro e w2 ⟨A5, c5, rfl, hl5, hC5, hb⟩; have HB_2 := Aside0.mk (below_step HB_1.out hb); have n_2 := Aside0.mk (blk_below n_1.out hb); have HC5 := Aside0.mk hC5; clear hC5 hl5; clear hb HB_1 n_1))
 go_loopw [7] (fun v7 wr => ∃ (i : Nat), i ≤ l.length ∧ v7 = .int .i64 i ∧ Aside0 (Kd.C k58 wr A5 l.length l) ∧ Aside0 (wr.heap[w.heap.size]? = some (.cells (nodeA n A c) 44 (0, 0))) ∧ Aside0 (Below w.heap.size w wr)) (fun v7 _ => l.length - (intOf v7).toNat)
 case atStart => exact ⟨0, by omega, rfl, ⟨HC5.out⟩, n_2, HB_2⟩
 case round =>
  clear HC5 n_2 HB_2
  obtain ⟨i, hi0, rfl, HC, HN, HW⟩ := hrel
  by_cases hi : i < l.length
  ·by_cases h60 : i < 60
   ·go_wp2
    go_loopw [8] (fun v8 wr => ∃ (j : Nat), j ≤ i ∧ v8 = .int .i64 j ∧ Aside0 (Kd.C k58 wr A5 l.length l) ∧ Aside0 (wr.heap[w.heap.size]? = some (.cells (nodeA n A c) 44 (0, 0))) ∧ Aside0 (Below w.heap.size w wr)) (fun v8 _ => i - (intOf v8).toNat)
    case atStart => exact ⟨0, by omega, rfl, HC, HN, HW⟩
    case round =>
     clear HC HN HW
     obtain ⟨j, hj, rfl, HC, HN, HW⟩ := hrel
     by_cases hji : j < i
     ·obtain ⟨ad, eA, u0, u1, u2, u3⟩ := at_T58 HC.out (i : Int) (by omega) (by omega)
      cases eA
      have hrdu : rd_T58 l (i : Int) = l[i] := by
       unfold rd_T58
       rw [Int.toNat_natCast, List.getD_eq_getElem?_getD, List.getElem?_eq_getElem hi]; rfl
      rw [hrdu] at u0 u1 u2 u3
      obtain ⟨ad2, eA, v0, v1, v2, v3⟩ := at_T58 HC.out (j : Int) (by omega) (by omega)
      cases eA
      have hrdv : rd_T58 l (j : Int) = l[j] := by
       unfold rd_T58
       rw [Int.toNat_natCast, List.getD_eq_getElem?_getD, List.getElem?_eq_getElem (show j < l.length by omega)]; rfl
      rw [hrdv] at v0 v1 v2 v3
      have hjl : j < l.length := by omega
      have hneN : ¬l[i] = l[j] := fun e => List.pairwise_iff_getElem.1 hnd j i (by omega) hi hji e.symm
      have hne : decide (l[i] = l[j]) = false := decide_eq_false (fun e => List.pairwise_iff_getElem.1 hnd j i (by omega) hi hji e.symm)
      go_wp2
      refine start_ (n := 9) (S := fun w' => w'.cell? (ad.add (i * 4)) = some (.int .i64 (l[i]).f0) ∧ w'.cell? ⟨(ad.add (i * 4)).block, (ad.add (i * 4)).off + 1, none⟩ = some (.int .i64 (l[i]).f1) ∧ w'.cell? ⟨(ad.add (i * 4)).block, (ad.add (i * 4)).off + 2, none⟩ = some (.int .i64 (l[i]).f2) ∧ w'.cell? ⟨(ad.add (i * 4)).block, (ad.add (i * 4)).off + 3, none⟩ = some (.int .i64 (l[i]).f3) ∧ w'.cell? (ad.add (j * 4)) = some (.int .i64 (l[j]).f0) ∧ w'.cell? ⟨(ad.add (j * 4)).block, (ad.add (j * 4)).off + 1, none⟩ = some (.int .i64 (l[j]).f1) ∧ w'.cell? ⟨(ad.add (j * 4)).block, (ad.add (j * 4)).off + 2, none⟩ = some (.int .i64 (l[j]).f2) ∧ w'.cell? ⟨(ad.add (j * 4)).block, (ad.add (j * 4)).off + 3, none⟩ = some (.int .i64 (l[j]).f3) ∧ Below wr.heap.size wr w') (ds := []) (Array.replicate 9 false) (by kernel_rfl) rfl rfl ⟨u0, u1, u2, u3, v0, v1, v2, v3, below_drew1 (Below.refl _ _)⟩ (fun hHeld => ?_)
      refine with_tabW fnamed12.tab12 fnamed12.bits12 (fun HT_ HW_ => ?_)
      refine pz 0 45 HT_ ?_; refine pz 1 46 HT_ ?_; refine pz 2 47 HT_ ?_; refine pz 4 49 HT_ ?_; refine pz 5 50 HT_ ?_; refine pz 6 51 HT_ ?_
      refine tz 3 48 HT_ HW_ (hr := (by rintro w' ⟨s1, s2, s3, s4, t1, t2, t3, t4, s7⟩; go_simp; with_reducible rfl)) (hS := hHeld) (h := ?_)
      refine tz 7 52 HT_ HW_ (hr := (by rintro w' ⟨s1, s2, s3, s4, t1, t2, t3, t4, s7⟩; go_simp; with_reducible rfl)) (hS := hHeld) (h := ?_)
      refine pureI 8 (some 53) HT_ rfl rfl (by kernel_rfl) (by rfl) (fun _ => by go_simp; exact rect_ite (fun b_ => Result.ok (Next.value (Value.bool b_)) _) (l[i]) (l[j])) (by simp only [Act.put, List.setIfInBounds_toArray, List.set_cons_zero, List.set_cons_succ]; rfl) ?_
      refine done_ (done_of HT_.out (by kernel_rfl)) ?_
      have HQ := Aside0.mk hHeld.2.2.2.2.2.2.2.2
      clear hHeld
      go_wp2
      go_roundw
      case rel => exact ⟨j + 1, by omega, by go_num, ⟨Kd.C_below HC.out HQ.out⟩, ⟨blk_below HN.out HQ.out⟩, ⟨below_step HW.out HQ.out⟩⟩
      case measure => simp [intOf]; omega
     ·obtain rfl : j = i := by omega
      obtain ⟨ad, eA, u0, u1, u2, u3⟩ := at_T58 HC.out (j : Int) (by omega) (by omega)
      cases eA
      have hrdu : rd_T58 l (j : Int) = l[j] := by
       unfold rd_T58
       rw [Int.toNat_natCast, List.getD_eq_getElem?_getD, List.getElem?_eq_getElem hi]; rfl
      rw [hrdu] at u0 u1 u2 u3
      simp only [Int.toNat_natCast] at u0 u1 u2 u3
      go_wp2_with (first
       | (go_at_call 22; (with_reducible refine ((HP.out _ _ (List.getElem_mem hi)).mono ?_)); rintro e w6 ⟨rfl, hb⟩; have HB6 := Aside0.mk hb; clear hb))
      go_roundw
      case rel => exact ⟨j + 1, by omega, by go_num, ⟨Kd.C_below HC.out HB6.out⟩, ⟨blk_below HN.out HB6.out⟩, ⟨below_step HW.out HB6.out⟩⟩
      case measure => simp [intOf]; omega
   ·skip
    by_cases hk0 : n.f5.length = 0
    ·have hk0b : ((n.f5.length : Int) == 0) = true := by simp [hk0]
     have hn3 := fun z => blk_cell HN.out z
     go_wp2_with (first
      | (go_at_call 13; (with_reducible refine (HL.out _ HW.out).mono ?_); rintro e w8 ⟨rfl, hb⟩; have HE := Aside0.mk (below_step HW.out hb); clear hb))
     go_ret
     exact ⟨rfl, HE.out⟩
    ·have hk0b : ((n.f5.length : Int) == 0) = false := beq_eq_false_iff_ne.2 (by omega)
     have hn3 := fun z => blk_cell HN.out z
     have HRk := Aside0.mk (HRk0.out hk0)
     have hsub := hsub0 hk0
     have hml := hml0 hk0
     generalize rectsL (n.f5[uint_ix k n.f5.length]'(uint_lt k (by omega))) = m at HRk hsub hml
     go_wp2
     clear hn3
     have hu1 := u64len hmax0
     have hu2 := uint_tmod k hmax0
     have hu3 : ¬((n.f5.length : Int) = 0) := by omega
     have hu4 : ((uint_ix k n.f5.length : Nat) : Int) < (n.f5.length : Int) := by have := uint_lt k (n := n.f5.length) (by omega); omega
     have hu5 : IntKind.i64.wrap ((uint_ix k n.f5.length : Nat) : Int) = ((uint_ix k n.f5.length : Nat) : Int) := i64w (by have := uint_lt k (n := n.f5.length) (by omega); omega)
     have hu6 : wrap64 ((uint_ix k n.f5.length : Nat) : Int) = ((uint_ix k n.f5.length : Nat) : Int) := by unfold wrap64; omega
     obtain ⟨ad0, A', c', eA, hK', hCA⟩ := kid_at HK0.out.2 (uint_ix k n.f5.length) (uint_lt k (by omega))
     cases eA
     have HK' := Aside0.mk hK'
     have HCA := Aside0.mk hCA
     clear hK' hCA
     refine start_ (n := 18) (S := fun w' => w'.heap[w.heap.size]? = some (.cells (nodeA n (some ad0) c) 44 (0, 0)) ∧ Below w.heap.size w w' ∧ Kd.C k58 w' A5 l.length l) (ds := [12]) (Array.replicate 18 false) (by kernel_rfl) rfl rfl ⟨blk_drew HN.out, below_drew1 HW.out, Kd.C_drew HC.out⟩ (fun hHeld => ?_)
     refine with_tabW fnamed18.tab18 fnamed18.bits18 (fun HT_ HW_ => ?_)
     refine pz 0 66 HT_ ?_; refine pz 2 68 HT_ ?_; refine pz 3 69 HT_ ?_; refine pz 4 70 HT_ ?_
     refine tz 1 67 HT_ HW_ (hr := (by rintro w' s0; have s0_ := fun i => blk_cell s0.1 i; go_simp; with_reducible rfl)) (hS := hHeld) (h := ?_)
     refine tz 5 71 HT_ HW_ (hr := (by rintro w' s0; have s0_ := fun i => blk_cell s0.1 i; go_simp; with_reducible rfl)) (hS := hHeld) (h := ?_)
     refine pz 6 72 HT_ ?_; refine pz 7 73 HT_ ?_; refine pz 8 74 HT_ ?_; refine pz 9 75 HT_ ?_; refine pz 10 76 HT_ ?_
     refine tz 11 77 HT_ HW_ (hr := (by rintro w' s0; exact rowRunAt rfl rfl (HCA.out.below s0.2.1) Tryz.underlying44 rfl (by kernel_rfl))) (hS := hHeld) (h := ?_)
     refine lastI 12 (some 78) HT_ rfl rfl (by kernel_rfl) (by decide) (fun K hK => ?_)
     refine goes_ Tryz.func17 (by kernel_rfl) rfl #[nodeV (n.f5[uint_ix k n.f5.length]'(uint_lt k (by omega))) A' c'] (by (try simp only [List.map_toArray, List.map_cons, List.map_nil]); first | done | rfl) rfl rfl (by first | rfl | ((try simp only [List.map_toArray, List.map_cons, List.map_nil]); first | done | rfl)) ?_
     have hh := hHeld
     with_reducible refine (HRk.out _ _ _ hHeld.2.1 (HK'.out.below hHeld.2.1)).mono ?_
     rintro e w9 ⟨A6, c6, rfl, hl6, hC6, hb⟩
     refine ⟨_, rfl, ?_⟩
     refine hK.out _ _ ?_
     clear hK K
     refine nz 78 ?_
     refine pz 13 65 HT_ ?_; refine pz 14 79 HT_ ?_; refine pz 15 80 HT_ ?_; refine pz 16 9 HT_ ?_; refine pz 17 10 HT_ ?_
     refine done_ (done_of HT_.out (by kernel_rfl)) ?_
     have HCl := Aside0.mk (Kd.C_below hh.2.2 hb)
     have HCm := Aside0.mk hC6
     have HWm := Aside0.mk (below_step hh.2.1 hb)
     clear hh hC6 hb HN HW HC HK' HCA HRk
     go_wp2
     go_loopw [11] (fun v11 wr => ∃ (i : Nat), i ≤ m.length ∧ v11 = .int .i64 i ∧ Aside0 (Kd.C k58 wr A5 l.length l) ∧ Aside0 (Kd.C k58 wr A6 m.length m) ∧ Aside0 (Below w.heap.size w wr)) (fun v11 _ => m.length - (intOf v11).toNat)
     case atStart => exact ⟨0, by omega, rfl, HCl, HCm, HWm⟩
     case round =>
      clear HCl HCm HWm
      obtain ⟨i, hi0, rfl, HCl, HCm, HWm⟩ := hrel
      by_cases hi : i < m.length
      ·go_wp2
       go_loopw [12, 13] (fun v12 v13 wr => ∃ (j : Nat), j ≤ l.length ∧ v12 = .bool ((l.take j).any (fun y => decide (y = m[i]))) ∧ v13 = .int .i64 j ∧ Aside0 (Kd.C k58 wr A5 l.length l) ∧ Aside0 (Kd.C k58 wr A6 m.length m) ∧ Aside0 (Below w.heap.size w wr)) (fun _ v13 _ => l.length - (intOf v13).toNat)
       case atStart => exact ⟨0, by omega, (by simp), rfl, HCl, HCm, HWm⟩
       case round =>
        clear HCl HCm HWm
        obtain ⟨j, hj0, rfl, rfl, HCl, HCm, HWm⟩ := hrel
        by_cases hj : j < l.length
        ·by_cases hz : (l.take j).any (fun y => decide (y = m[i])) = true
         ·rw [hz]
          go_wp2
          refine start_ (n := 13) (S := fun w' => True) (ds := []) (Array.replicate 13 false) (by kernel_rfl) rfl rfl trivial (fun hHeld => ?_)
          refine with_tabW fnamed26.tab26 fnamed26.bits26 (fun HT_ HW_ => ?_)
          refine pz 0 93 HT_ ?_; refine pz 1 94 HT_ ?_; refine uz 2 95 HT_ ?_; refine uz 3 96 HT_ ?_; refine uz 4 97 HT_ ?_; refine uz 5 98 HT_ ?_; refine uz 6 99 HT_ ?_; refine uz 7 100 HT_ ?_; refine uz 8 101 HT_ ?_; refine uz 9 102 HT_ ?_; refine uz 10 103 HT_ ?_; refine pz 11 104 HT_ ?_; refine pz 12 12 HT_ ?_
          refine done_ (done_of HT_.out (by kernel_rfl)) ?_
          go_wp2
          go_roundw
          case rel => exact ⟨j + 1, by omega, (by rw [any_take9 _ hj, hz]; rfl), by go_num, ⟨Kd.C_drew HCl.out⟩, ⟨Kd.C_drew HCm.out⟩, ⟨below_drew1 HWm.out⟩⟩
          case measure => simp [intOf]; omega
         ·rw [Bool.eq_false_iff.2 hz]
          obtain ⟨adl, eA, u0, u1, u2, u3⟩ := at_T58 HCl.out (j : Int) (by omega) (by omega)
          cases eA
          have hrdu : rd_T58 l (j : Int) = l[j] := by
           unfold rd_T58
           rw [Int.toNat_natCast, List.getD_eq_getElem?_getD, List.getElem?_eq_getElem hj]; rfl
          rw [hrdu] at u0 u1 u2 u3
          obtain ⟨adm, eA, v0, v1, v2, v3⟩ := at_T58 HCm.out (i : Int) (by omega) (by omega)
          cases eA
          have hrdv : rd_T58 m (i : Int) = m[i] := by
           unfold rd_T58
           rw [Int.toNat_natCast, List.getD_eq_getElem?_getD, List.getElem?_eq_getElem hi]; rfl
          rw [hrdv] at v0 v1 v2 v3
          go_wp2
          refine start_ (n := 13) (S := fun w' => w'.cell? (adl.add (j * 4)) = some (.int .i64 (l[j]).f0) ∧ w'.cell? ⟨(adl.add (j * 4)).block, (adl.add (j * 4)).off + 1, none⟩ = some (.int .i64 (l[j]).f1) ∧ w'.cell? ⟨(adl.add (j * 4)).block, (adl.add (j * 4)).off + 2, none⟩ = some (.int .i64 (l[j]).f2) ∧ w'.cell? ⟨(adl.add (j * 4)).block, (adl.add (j * 4)).off + 3, none⟩ = some (.int .i64 (l[j]).f3) ∧ w'.cell? (adm.add (i * 4)) = some (.int .i64 (m[i]).f0) ∧ w'.cell? ⟨(adm.add (i * 4)).block, (adm.add (i * 4)).off + 1, none⟩ = some (.int .i64 (m[i]).f1) ∧ w'.cell? ⟨(adm.add (i * 4)).block, (adm.add (i * 4)).off + 2, none⟩ = some (.int .i64 (m[i]).f2) ∧ w'.cell? ⟨(adm.add (i * 4)).block, (adm.add (i * 4)).off + 3, none⟩ = some (.int .i64 (m[i]).f3) ∧ Below wr.heap.size wr w') (ds := []) (Array.replicate 13 false) (by kernel_rfl) rfl rfl ⟨u0, u1, u2, u3, v0, v1, v2, v3, below_drew1 (Below.refl _ _)⟩ (fun hHeld => ?_)
          refine with_tabW fnamed26.tab26 fnamed26.bits26 (fun HT_ HW_ => ?_)
          refine pz 0 93 HT_ ?_; refine pz 1 94 HT_ ?_; refine pz 2 95 HT_ ?_; refine pz 3 96 HT_ ?_; refine pz 4 97 HT_ ?_; refine pz 6 99 HT_ ?_; refine pz 7 100 HT_ ?_; refine pz 8 101 HT_ ?_
          refine tz 5 98 HT_ HW_ (hr := (by rintro w' ⟨s1, s2, s3, s4, t1, t2, t3, t4, s7⟩; go_simp; with_reducible rfl)) (hS := hHeld) (h := ?_)
          refine tz 9 102 HT_ HW_ (hr := (by rintro w' ⟨s1, s2, s3, s4, t1, t2, t3, t4, s7⟩; go_simp; with_reducible rfl)) (hS := hHeld) (h := ?_)
          refine pureI 10 (some 103) HT_ rfl rfl (by kernel_rfl) (by rfl) (fun _ => by go_simp; exact rect_ite (fun b_ => Result.ok (Next.value (Value.bool b_)) _) (l[j]) (m[i])) (by simp only [Act.put, List.setIfInBounds_toArray, List.set_cons_zero, List.set_cons_succ]; rfl) ?_
          refine pz 11 104 HT_ ?_; refine pz 12 12 HT_ ?_
          refine done_ (done_of HT_.out (by kernel_rfl)) ?_
          have HQ := Aside0.mk hHeld.2.2.2.2.2.2.2.2
          clear hHeld
          go_wp2
          go_roundw
          case rel => exact ⟨j + 1, by omega, (by rw [any_take9 _ hj, Bool.eq_false_iff.2 hz]; rfl), by go_num, ⟨Kd.C_below HCl.out HQ.out⟩, ⟨Kd.C_below HCm.out HQ.out⟩, ⟨below_step HWm.out HQ.out⟩⟩
          case measure => simp [intOf]; omega
        ·have hin : (l.take j).any (fun y => decide (y = m[i])) = true := by
          rw [List.take_of_length_le (by omega)]
          exact List.any_eq_true.2 ⟨m[i], hsub _ (List.getElem_mem hi), by simp⟩
         rw [hin]
         go_wp2
         go_roundw
         case rel => exact ⟨i + 1, by omega, by go_num, HCl, HCm, HWm⟩
         case measure => simp [intOf]; omega
      ·go_wp2_with (first
        | (go_at_call 13; (with_reducible refine (HL.out _ HWm.out).mono ?_); rintro e w8 ⟨rfl, hb⟩; have HE := Aside0.mk (below_step HWm.out hb); clear hb))
       go_ret
       exact ⟨rfl, HE.out⟩
  ·skip
   by_cases hk0 : n.f5.length = 0
   ·have hk0b : ((n.f5.length : Int) == 0) = true := by simp [hk0]
    have hn3 := fun z => blk_cell HN.out z
    go_wp2_with (first
     | (go_at_call 13; (with_reducible refine (HL.out _ HW.out).mono ?_); rintro e w8 ⟨rfl, hb⟩; have HE := Aside0.mk (below_step HW.out hb); clear hb))
    go_ret
    exact ⟨rfl, HE.out⟩
   ·have hk0b : ((n.f5.length : Int) == 0) = false := beq_eq_false_iff_ne.2 (by omega)
    have hn3 := fun z => blk_cell HN.out z
    have HRk := Aside0.mk (HRk0.out hk0)
    have hsub := hsub0 hk0
    have hml := hml0 hk0
    generalize rectsL (n.f5[uint_ix k n.f5.length]'(uint_lt k (by omega))) = m at HRk hsub hml
    go_wp2
    clear hn3
    have hu1 := u64len hmax0
    have hu2 := uint_tmod k hmax0
    have hu3 : ¬((n.f5.length : Int) = 0) := by omega
    have hu4 : ((uint_ix k n.f5.length : Nat) : Int) < (n.f5.length : Int) := by have := uint_lt k (n := n.f5.length) (by omega); omega
    have hu5 : IntKind.i64.wrap ((uint_ix k n.f5.length : Nat) : Int) = ((uint_ix k n.f5.length : Nat) : Int) := i64w (by have := uint_lt k (n := n.f5.length) (by omega); omega)
    have hu6 : wrap64 ((uint_ix k n.f5.length : Nat) : Int) = ((uint_ix k n.f5.length : Nat) : Int) := by unfold wrap64; omega
    obtain ⟨ad0, A', c', eA, hK', hCA⟩ := kid_at HK0.out.2 (uint_ix k n.f5.length) (uint_lt k (by omega))
    cases eA
    have HK' := Aside0.mk hK'
    have HCA := Aside0.mk hCA
    clear hK' hCA
    refine start_ (n := 18) (S := fun w' => w'.heap[w.heap.size]? = some (.cells (nodeA n (some ad0) c) 44 (0, 0)) ∧ Below w.heap.size w w' ∧ Kd.C k58 w' A5 l.length l) (ds := [12]) (Array.replicate 18 false) (by kernel_rfl) rfl rfl ⟨blk_drew HN.out, below_drew1 HW.out, Kd.C_drew HC.out⟩ (fun hHeld => ?_)
    refine with_tabW fnamed18.tab18 fnamed18.bits18 (fun HT_ HW_ => ?_)
    refine pz 0 66 HT_ ?_; refine pz 2 68 HT_ ?_; refine pz 3 69 HT_ ?_; refine pz 4 70 HT_ ?_
    refine tz 1 67 HT_ HW_ (hr := (by rintro w' s0; have s0_ := fun i => blk_cell s0.1 i; go_simp; with_reducible rfl)) (hS := hHeld) (h := ?_)
    refine tz 5 71 HT_ HW_ (hr := (by rintro w' s0; have s0_ := fun i => blk_cell s0.1 i; go_simp; with_reducible rfl)) (hS := hHeld) (h := ?_)
    refine pz 6 72 HT_ ?_; refine pz 7 73 HT_ ?_; refine pz 8 74 HT_ ?_; refine pz 9 75 HT_ ?_; refine pz 10 76 HT_ ?_
    refine tz 11 77 HT_ HW_ (hr := (by rintro w' s0; exact rowRunAt rfl rfl (HCA.out.below s0.2.1) Tryz.underlying44 rfl (by kernel_rfl))) (hS := hHeld) (h := ?_)
    refine lastI 12 (some 78) HT_ rfl rfl (by kernel_rfl) (by decide) (fun K hK => ?_)
    refine goes_ Tryz.func17 (by kernel_rfl) rfl #[nodeV (n.f5[uint_ix k n.f5.length]'(uint_lt k (by omega))) A' c'] (by (try simp only [List.map_toArray, List.map_cons, List.map_nil]); first | done | rfl) rfl rfl (by first | rfl | ((try simp only [List.map_toArray, List.map_cons, List.map_nil]); first | done | rfl)) ?_
    have hh := hHeld
    with_reducible refine (HRk.out _ _ _ hHeld.2.1 (HK'.out.below hHeld.2.1)).mono ?_
    rintro e w9 ⟨A6, c6, rfl, hl6, hC6, hb⟩
    refine ⟨_, rfl, ?_⟩
    refine hK.out _ _ ?_
    clear hK K
    refine nz 78 ?_
    refine pz 13 65 HT_ ?_; refine pz 14 79 HT_ ?_; refine pz 15 80 HT_ ?_; refine pz 16 9 HT_ ?_; refine pz 17 10 HT_ ?_
    refine done_ (done_of HT_.out (by kernel_rfl)) ?_
    have HCl := Aside0.mk (Kd.C_below hh.2.2 hb)
    have HCm := Aside0.mk hC6
    have HWm := Aside0.mk (below_step hh.2.1 hb)
    clear hh hC6 hb HN HW HC HK' HCA HRk
    go_wp2
    go_loopw [11] (fun v11 wr => ∃ (i : Nat), i ≤ m.length ∧ v11 = .int .i64 i ∧ Aside0 (Kd.C k58 wr A5 l.length l) ∧ Aside0 (Kd.C k58 wr A6 m.length m) ∧ Aside0 (Below w.heap.size w wr)) (fun v11 _ => m.length - (intOf v11).toNat)
    case atStart => exact ⟨0, by omega, rfl, HCl, HCm, HWm⟩
    case round =>
     clear HCl HCm HWm
     obtain ⟨i, hi0, rfl, HCl, HCm, HWm⟩ := hrel
     by_cases hi : i < m.length
     ·go_wp2
      go_loopw [12, 13] (fun v12 v13 wr => ∃ (j : Nat), j ≤ l.length ∧ v12 = .bool ((l.take j).any (fun y => decide (y = m[i]))) ∧ v13 = .int .i64 j ∧ Aside0 (Kd.C k58 wr A5 l.length l) ∧ Aside0 (Kd.C k58 wr A6 m.length m) ∧ Aside0 (Below w.heap.size w wr)) (fun _ v13 _ => l.length - (intOf v13).toNat)
      case atStart => exact ⟨0, by omega, (by simp), rfl, HCl, HCm, HWm⟩
      case round =>
       clear HCl HCm HWm
       obtain ⟨j, hj0, rfl, rfl, HCl, HCm, HWm⟩ := hrel
       by_cases hj : j < l.length
       ·by_cases hz : (l.take j).any (fun y => decide (y = m[i])) = true
        ·rw [hz]
         go_wp2
         refine start_ (n := 13) (S := fun w' => True) (ds := []) (Array.replicate 13 false) (by kernel_rfl) rfl rfl trivial (fun hHeld => ?_)
         refine with_tabW fnamed26.tab26 fnamed26.bits26 (fun HT_ HW_ => ?_)
         refine pz 0 93 HT_ ?_; refine pz 1 94 HT_ ?_; refine uz 2 95 HT_ ?_; refine uz 3 96 HT_ ?_; refine uz 4 97 HT_ ?_; refine uz 5 98 HT_ ?_; refine uz 6 99 HT_ ?_; refine uz 7 100 HT_ ?_; refine uz 8 101 HT_ ?_; refine uz 9 102 HT_ ?_; refine uz 10 103 HT_ ?_; refine pz 11 104 HT_ ?_; refine pz 12 12 HT_ ?_
         refine done_ (done_of HT_.out (by kernel_rfl)) ?_
         go_wp2
         go_roundw
         case rel => exact ⟨j + 1, by omega, (by rw [any_take9 _ hj, hz]; rfl), by go_num, ⟨Kd.C_drew HCl.out⟩, ⟨Kd.C_drew HCm.out⟩, ⟨below_drew1 HWm.out⟩⟩
         case measure => simp [intOf]; omega
        ·rw [Bool.eq_false_iff.2 hz]
         obtain ⟨adl, eA, u0, u1, u2, u3⟩ := at_T58 HCl.out (j : Int) (by omega) (by omega)
         cases eA
         have hrdu : rd_T58 l (j : Int) = l[j] := by
          unfold rd_T58
          rw [Int.toNat_natCast, List.getD_eq_getElem?_getD, List.getElem?_eq_getElem hj]; rfl
         rw [hrdu] at u0 u1 u2 u3
         obtain ⟨adm, eA, v0, v1, v2, v3⟩ := at_T58 HCm.out (i : Int) (by omega) (by omega)
         cases eA
         have hrdv : rd_T58 m (i : Int) = m[i] := by
          unfold rd_T58
          rw [Int.toNat_natCast, List.getD_eq_getElem?_getD, List.getElem?_eq_getElem hi]; rfl
         rw [hrdv] at v0 v1 v2 v3
         go_wp2
         refine start_ (n := 13) (S := fun w' => w'.cell? (adl.add (j * 4)) = some (.int .i64 (l[j]).f0) ∧ w'.cell? ⟨(adl.add (j * 4)).block, (adl.add (j * 4)).off + 1, none⟩ = some (.int .i64 (l[j]).f1) ∧ w'.cell? ⟨(adl.add (j * 4)).block, (adl.add (j * 4)).off + 2, none⟩ = some (.int .i64 (l[j]).f2) ∧ w'.cell? ⟨(adl.add (j * 4)).block, (adl.add (j * 4)).off + 3, none⟩ = some (.int .i64 (l[j]).f3) ∧ w'.cell? (adm.add (i * 4)) = some (.int .i64 (m[i]).f0) ∧ w'.cell? ⟨(adm.add (i * 4)).block, (adm.add (i * 4)).off + 1, none⟩ = some (.int .i64 (m[i]).f1) ∧ w'.cell? ⟨(adm.add (i * 4)).block, (adm.add (i * 4)).off + 2, none⟩ = some (.int .i64 (m[i]).f2) ∧ w'.cell? ⟨(adm.add (i * 4)).block, (adm.add (i * 4)).off + 3, none⟩ = some (.int .i64 (m[i]).f3) ∧ Below wr.heap.size wr w') (ds := []) (Array.replicate 13 false) (by kernel_rfl) rfl rfl ⟨u0, u1, u2, u3, v0, v1, v2, v3, below_drew1 (Below.refl _ _)⟩ (fun hHeld => ?_)
         refine with_tabW fnamed26.tab26 fnamed26.bits26 (fun HT_ HW_ => ?_)
         refine pz 0 93 HT_ ?_; refine pz 1 94 HT_ ?_; refine pz 2 95 HT_ ?_; refine pz 3 96 HT_ ?_; refine pz 4 97 HT_ ?_; refine pz 6 99 HT_ ?_; refine pz 7 100 HT_ ?_; refine pz 8 101 HT_ ?_
         refine tz 5 98 HT_ HW_ (hr := (by rintro w' ⟨s1, s2, s3, s4, t1, t2, t3, t4, s7⟩; go_simp; with_reducible rfl)) (hS := hHeld) (h := ?_)
         refine tz 9 102 HT_ HW_ (hr := (by rintro w' ⟨s1, s2, s3, s4, t1, t2, t3, t4, s7⟩; go_simp; with_reducible rfl)) (hS := hHeld) (h := ?_)
         refine pureI 10 (some 103) HT_ rfl rfl (by kernel_rfl) (by rfl) (fun _ => by go_simp; exact rect_ite (fun b_ => Result.ok (Next.value (Value.bool b_)) _) (l[j]) (m[i])) (by simp only [Act.put, List.setIfInBounds_toArray, List.set_cons_zero, List.set_cons_succ]; rfl) ?_
         refine pz 11 104 HT_ ?_; refine pz 12 12 HT_ ?_
         refine done_ (done_of HT_.out (by kernel_rfl)) ?_
         have HQ := Aside0.mk hHeld.2.2.2.2.2.2.2.2
         clear hHeld
         go_wp2
         go_roundw
         case rel => exact ⟨j + 1, by omega, (by rw [any_take9 _ hj, Bool.eq_false_iff.2 hz]; rfl), by go_num, ⟨Kd.C_below HCl.out HQ.out⟩, ⟨Kd.C_below HCm.out HQ.out⟩, ⟨below_step HWm.out HQ.out⟩⟩
         case measure => simp [intOf]; omega
       ·have hin : (l.take j).any (fun y => decide (y = m[i])) = true := by
         rw [List.take_of_length_le (by omega)]
         exact List.any_eq_true.2 ⟨m[i], hsub _ (List.getElem_mem hi), by simp⟩
        rw [hin]
        go_wp2
        go_roundw
        case rel => exact ⟨i + 1, by omega, by go_num, HCl, HCm, HWm⟩
        case measure => simp [intOf]; omega
     ·go_wp2_with (first
       | (go_at_call 13; (with_reducible refine (HL.out _ HWm.out).mono ?_); rintro e w8 ⟨rfl, hb⟩; have HE := Aside0.mk (below_step HWm.out hb); clear hb))
      go_ret
      exact ⟨rfl, HE.out⟩
theorem ofS_right {a b c d : Int} (h1 : placeB a b = true) (h2 : placeB c d = true) : rectB (ofS a b c d).t (ofS a b c d).l (ofS a b c d).o (ofS a b c d).r = true := by
 unfold ofS
 rw [if_pos ⟨h1, h2⟩]
 unfold rectB placeB at *
 simp only [Bool.and_eq_true, decide_eq_true_eq] at *
 unfold mn mx
 refine ⟨⟨?_, ?_, ?_, ?_⟩, ⟨?_, ?_, ?_, ?_⟩, ?_, ?_⟩ <;> (repeat' split) <;> omega
theorem named_right {n : Nd} (h : checkI n = 0) : ∀ q ∈ outS (preN n), rectB q.f0 q.f1 q.f2 q.f3 = true := by
 intro q hq
 obtain ⟨x, hx, hr, rfl⟩ := mem_outS.1 hq
 have hp := allS_mem _ n (check_right h) x hx
 simp only [Bool.and_eq_true] at hp
 have hk := hp.2
 unfold rcS fR
 unfold rgB at hr
 by_cases h3 : x.f0 = 3
 ·rw [if_pos h3]
  unfold kindB at hk
  simp [h3] at hk
  exact ofS_right hk.2.1 hk.2.2
 ·rw [if_neg h3]
  have h2 : x.f0 = 2 := by simpa [h3] using hr
  unfold kindB at hk
  simp [h2] at hk
  exact ofS_right hk.2 hk.2
theorem FormsNamed_walk (n : Nd) (A : Option Addr) (c : Nat) (k : Int) (w : World) (hK : KidsC w A c n.f5) (w1 : (Lit.int .i64 k).wf = true) (hL0 : Aside0 (LaidW w)) :
  Calls Tryz.prog 7 #[nodeV n A c, .int .i64 k] w fun e w' => e = .returned (.bool true) ∧ Below w.heap.size w w' := by
 cases hd : depthI n == 0 with
 | true => exact fnamed_deep n k A c w (deep9 hK hd) (lives9 hL0)
 | false =>
  have HR : Aside0 (∀ W, Below w.heap.size w W → Calls Tryz.prog 17 #[nodeV n A c] W (RectsOut (rectsL n) (checkI n) W)) := ⟨fun W hW => rects_calls n A c W (hK.below hW) (LaidAt hL0 hW)⟩
  by_cases hc : checkI n = 0
  ·have e : rectsL n = outS (preN n) := by unfold rectsL; rw [if_pos hc]
   have ek : ∀ h0 : ¬n.f5.length = 0, checkI (n.f5[uint_ix k n.f5.length]'(uint_lt k (by omega))) = 0 := fun h0 => check_kid hc (List.getElem_mem _)
   rw [hc, e] at HR
   refine fnamed_go n k A c (outS (preN n)) w hK (by have := rectsL_length n; rwa [e] at this) (nodup_outS _) (deep9 hK hd) (lives9 hL0) HR ⟨fun W x hx => ?_⟩ ⟨fun h0 W A_ c_ hW h => ?_⟩ (fun h0 x hx => ?_) (fun h0 => rectsL_length _)
   ·have hp := placeCheck_B x.f0 x.f1 x.f2 x.f3
    rw [named_right hc x hx, if_pos rfl] at hp
    refine (place_Check.calls _ _ _ _ _ W hp).mono ?_
    rintro e w' ⟨rfl, hb⟩
    exact ⟨rfl, hb⟩
   ·have := rects_calls _ A_ c_ W h (LaidAt hL0 hW)
    rwa [ek h0] at this
   ·unfold rectsL at hx
    rw [if_pos (ek h0), mem_outS] at hx
    obtain ⟨y, hy, hr⟩ := hx
    exact mem_outS.2 ⟨y, pre_kid (uint_lt k (by omega)) y hy, hr⟩
  ·have e : rectsL n = [] := by unfold rectsL; rw [if_neg hc]
   rw [e] at HR
   exact fnamed_bad n k A c _ hc w (deep9 hK hd) (lives9 hL0) HR
end Go.Proofs.YtopdjokncbpghaaGreatDoor.Pr
end
