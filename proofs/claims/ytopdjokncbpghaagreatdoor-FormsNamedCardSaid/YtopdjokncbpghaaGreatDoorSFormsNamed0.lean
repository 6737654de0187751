/-
  Lemmas for the law FormsNamed.
-/
import Derived.Test.YtopdjokncbpghaaGreatDoorSFFindsFChecksFRectsFKids0
import Derived.Test.YtopdjokncbpghaaGreatDoorSFFindsFChecksFRectsFKids1
import Derived.Test.YtopdjokncbpghaaGreatDoorSFFindsFChecksFRectsFKids2
import Derived.Test.YtopdjokncbpghaaGreatDoorSFFindsFChecksFRectsFKids3
import Derived.Test.YtopdjokncbpghaaGreatDoorSFFindsFChecksFRectsFKids4
import Derived.Test.YtopdjokncbpghaaGreatDoorSFFindsFChecksFRectsFKids5
import Derived.Test.YtopdjokncbpghaaGreatDoorSFFindsFChecksFRectsFKids6
import Derived.Test.YtopdjokncbpghaaGreatDoorSFFindsFChecksFRectsFKids7
import Derived.Test.YtopdjokncbpghaaGreatDoorSFFindsFChecksFRectsFKids8
import Derived.Test.YtopdjokncbpghaaGreatDoorSFFindsFChecksFRectsFKids9
import Derived.Test.YtopdjokncbpghaaGreatDoorSFFindsFChecksFRectsFKids10
import Derived.Test.YtopdjokncbpghaaGreatDoorSFFindsFChecksFRectsFKids11
import Derived.Test.YtopdjokncbpghaaGreatDoorSFFindsFChecksFRectsFKids12
import Derived.Test.YtopdjokncbpghaaGreatDoorSFFindsFChecksFRectsFKids13
import Derived.Test.YtopdjokncbpghaaGreatDoorSFFindsFChecksFRectsFKids14
import Derived.Test.YtopdjokncbpghaaGreatDoorSFFindsFChecksFRectsFKids15
import Derived.Test.YtopdjokncbpghaaGreatDoorSFFindsFChecksFRectsFKids16
import Derived.Test.YtopdjokncbpghaaGreatDoorSFFindsFChecksFRectsFKids17
import Derived.Test.YtopdjokncbpghaaGreatDoorSFFindsFChecksFRectsFKids18
import Derived.Test.YtopdjokncbpghaaGreatDoorSFFindsFChecksFRectsFKids19
import Derived.Test.YtopdjokncbpghaaGreatDoorSFFindsFChecksFRectsFKids20
import Derived.Test.YtopdjokncbpghaaGreatDoorSFFindsFChecksFRectsFKids21
import Derived.Test.YtopdjokncbpghaaGreatDoorSFFindsFChecksFRectsFKids22
import Derived.Test.YtopdjokncbpghaaGreatDoorSFFindsFChecksFRectsFKids23
import Derived.Test.YtopdjokncbpghaaGreatDoorSFFindsFChecksFRectsFKids24
import Derived.Test.YtopdjokncbpghaaGreatDoorSFFindsFChecksFRectsFKids25
import Derived.Test.YtopdjokncbpghaaGreatDoorSFFindsFChecksFRectsFKids26
import Derived.Test.YtopdjokncbpghaaGreatDoorSFFindsFChecksFRectsFKids27
import Derived.Test.YtopdjokncbpghaaGreatDoorSFFindsFChecksFRectsFKids28
import Derived.Test.YtopdjokncbpghaaGreatDoorSFFindsFChecksFRectsFKids29
import Derived.Test.YtopdjokncbpghaaGreatDoorSFFindsFChecksFRectsFKids30
import Derived.Test.YtopdjokncbpghaaGreatDoorSFFindsFChecksFRectsFKids31
import Derived.Test.YtopdjokncbpghaaGreatDoorSFFindsFChecksFRectsFKids32
import Derived.Test.YtopdjokncbpghaaGreatDoorSFFindsFChecksFRectsFKids33
import Derived.Test.YtopdjokncbpghaaGreatDoorSFFindsFChecksFRectsFKids34
import Derived.Test.YtopdjokncbpghaaGreatDoorSFFindsFChecksFRectsFKids35
import Derived.Test.YtopdjokncbpghaaGreatDoorSFFindsFChecksFRectsFKids36
import Derived.Test.YtopdjokncbpghaaGreatDoorSFFindsFChecksFRectsFKids37
import Derived.Test.YtopdjokncbpghaaGreatDoorSFFindsFChecksFRectsFKids38
import Derived.Test.YtopdjokncbpghaaGreatDoorSFFindsFChecksFRectsFKids39
import Derived.Test.YtopdjokncbpghaaGreatDoorSFFindsFChecksFRectsFKids40
import Derived.Test.YtopdjokncbpghaaGreatDoorSFFindsFChecksFRectsFKids41
import Derived.Test.YtopdjokncbpghaaGreatDoorSFFindsFChecksFRectsFKids42
import Derived.Test.YtopdjokncbpghaaGreatDoorSFFindsFChecksFRectsFKids43
import Derived.Test.YtopdjokncbpghaaGreatDoorSFFindsFChecksFRectsFKids44
import Derived.ArgAppend
import Derived.Below
import Derived.BigQuiet
import Derived.Deep.AppendLies
import Derived.Deep.CutBlock
import Derived.Deep.DeepCutAuto
import Derived.Deep.Draws
import Derived.Deep.LoopGhost
import Derived.Deep.OwnRows
import Derived.Deep.QuietTactic
import Derived.Deep.RegionHeld3
import Derived.KernelRfl
import Derived.Laws.BitsLemmas
import Derived.Laws.BytesArg
import Derived.Laws.IdiomCopy
import Derived.Laws.MakeOwn
import Derived.Laws.OwnMore
import Derived.Laws.Rows
import Derived.Laws.Slices
import Derived.Laws.StructEq
import Derived.Lib.AppendStr
import Derived.Lib.ConvBytes
import Derived.Maps.AppendAt
import Derived.OrdersHeld
import Derived.OwnWalk
import Derived.RowKit
import Derived.RowKit3
import Derived.Tactics
import Derived.Test.YtopdjokncbpghaaGreatDoorProg
import Derived.WalkKit
import Derived.WideLaws
set_option maxHeartbeats 8000000
set_option maxRecDepth 100000
set_option linter.unusedVariables false
set_option linter.unusedSimpArgs false
section
namespace Go.Proofs.YtopdjokncbpghaaGreatDoor.Pr
open Go.RowKit Go.Proofs.YtopdjokncbpghaaGreatDoorW.PrintWords Go.Proofs.YtopdjokncbpghaaGreatDoorW.PrintLast Go.Proofs.YtopdjokncbpghaaGreatDoorW.PrintMore
attribute [local go_sem] max2_int min2_int max_two min_two max_three min_three max_four min_four   -- for this text's walks alone
attribute [local go_sem high] eqA58
def place_Check.f (a0_0 : Int) (a0_1 : Int) (a0_2 : Int) (a0_3 : Int) : Option (Int) := (place_Of.f a0_0 a0_1 a0_2 a0_3).bind fun bt110 => (if bt110.2.2.2.2 = 0 then (if (!(bt110.1 == a0_0) || (!(bt110.2.1 == a0_1) || (!(bt110.2.2.1 == a0_2) || (!(bt110.2.2.2.1 == a0_3))))) = true then (some 2) else (some 0)) else (some 2))
theorem place_Check.calls (a0_0 : Int) (a0_1 : Int) (a0_2 : Int) (a0_3 : Int) (r : Int) (w : World) (h : place_Check.f a0_0 a0_1 a0_2 a0_3 = some r) :
  Calls Tryz.prog 22 #[.agg #[.int .i64 a0_0, .int .i64 a0_1, .int .i64 a0_2, .int .i64 a0_3]] w fun e w' => e = .returned (.int .i64 r) ∧ Below w.heap.size w w' := by
 have hu58 := Tryz.underlying58
 have hu39 := Tryz.underlying39
 have HB := Aside0.mk (Below.refl w.heap.size w)
 have H : ((place_Of.f a0_0 a0_1 a0_2 a0_3).bind fun bt110 => (if bt110.2.2.2.2 = 0 then (if (!(bt110.1 == a0_0) || (!(bt110.2.1 == a0_1) || (!(bt110.2.2.1 == a0_2) || (!(bt110.2.2.2.1 == a0_3))))) = true then (some 2) else (some 0)) else (some 2))) = some r := h
 clear h
 replace H := Option.bind_eq_some_iff.mp H
 obtain ⟨⟨t110, t111, t112, t113, t114⟩, A20, H⟩ := H
 replace H : (if t114 = 0 then (if (!(t110 == a0_0) || (!(t111 == a0_1) || (!(t112 == a0_2) || (!(t113 == a0_3))))) = true then (some 2) else (some 0)) else (some 2)) = some r := H
 have A2 := Aside0.mk A20
 clear A20
 by_cases c3 : t114 = 0
 ·rw [if_pos c3] at H
  have c3b0 : (t114 == 0) = true := beq_iff_eq.mpr c3
  have c3b1 : (t114 != 0) = false := bne_eq_false_iff_eq.mpr c3
  clear c3
  by_cases c4 : (!(t110 == a0_0) || (!(t111 == a0_1) || (!(t112 == a0_2) || (!(t113 == a0_3))))) = true
  ·rw [if_pos c4] at H
   have c4b0 : (!(t110 == a0_0) || (!(t111 == a0_1) || (!(t112 == a0_2) || (!(t113 == a0_3))))) = true := c4
   clear c4
   obtain rfl := Option.some.inj H
   go_enter Tryz.func22, Tryz.ntmps22
   go_wp2_with (first | ((with_reducible refine gate_dst (N := 1) rfl ?_); refine boxE 1 58 (#[.int .i64 a0_0, .int .i64 a0_1, .int .i64 a0_2, .int .i64 a0_3]) ?_; intro gb109 hg w5 hbox hb; have n0_ := Aside0.mk (below_step (hbA) hb); have n1_ := Aside0.mk (hbox); have n2_ := Aside0.mk ((by rw [hg]; exact (below_size (hbA)) : w.heap.size ≤ gb109)); have n3_ := n2_; clear HB; have HB := n0_; have BK109 := n1_; have GW109 := n2_; have GE109 := n3_; clear n0_ n1_ n2_ n3_; clear hb hbox hg; obtain ⟨hcz6_0, hcz6_1, hcz6_2, hcz6_3⟩ := cellsA4 BK109.out; obtain ⟨hfz6_0, hfz6_1, hfz6_2, hfz6_3⟩ := frozA4 BK109.out) | ((with_reducible refine gate_callee (f := 44) rfl ?_); refine goesL_ (some 16) rfl rfl Tryz.func44 (by kernel_rfl) rfl #[.agg #[.int .i64 a0_0, .int .i64 a0_1], .agg #[.int .i64 a0_2, .int .i64 a0_3]] rfl argA ?_; (with_reducible refine (place_Of.calls a0_0 a0_1 a0_2 a0_3 t110 t111 t112 t113 t114 _ A2.out).mono ?_); rintro e w7 ⟨rfl, hb⟩; refine ⟨_, rfl, ?_⟩; have n0_ := Aside0.mk (blk_below (g := gb109) (o := .cells #[.int .i64 a0_0, .int .i64 a0_1, .int .i64 a0_2, .int .i64 a0_3] 58 (0, 0)) (have bk_ := BK109.out; bkA) hb); have n1_ := Aside0.mk (below_step (hbA) hb); clear BK109; clear HB; have BK109 := n0_; have HB := n1_; clear n0_ n1_; (try clear hb); (try clear hb2); (try clear hk); (try clear hi)) | ((with_reducible refine gate_dst (N := 3) rfl ?_); refine boxE 3 58 (#[.int .i64 0, .int .i64 0, .int .i64 0, .int .i64 0]) ?_; intro gb115 hg w8 hbox hb; have n0_ := Aside0.mk (blk_below (g := gb109) (o := .cells #[.int .i64 a0_0, .int .i64 a0_1, .int .i64 a0_2, .int .i64 a0_3] 58 (0, 0)) (have bk_ := BK109.out; bkA) hb); have n1_ := Aside0.mk (below_step (hbA) hb); have n2_ := Aside0.mk (hbox); have n3_ := Aside0.mk ((by rw [hg]; exact (below_size (hbA)) : w.heap.size ≤ gb115)); have n4_ := n3_; have n5_ := Aside0.mk ((by rw [hg]; exact Nat.ne_of_lt (blk_lt (g := gb109) (o := .cells #[.int .i64 a0_0, .int .i64 a0_1, .int .i64 a0_2, .int .i64 a0_3] 58 (0, 0)) (have bk_ := BK109.out; bkA)) : gb109 ≠ gb115)); have n6_ := Aside0.mk n5_.out.symm; clear BK109; clear HB; have BK109 := n0_; have HB := n1_; have BK115 := n2_; have GW115 := n3_; have GE115 := n4_; have NB109_115 := n5_; have NB115_109 := n6_; clear n0_ n1_ n2_ n3_ n4_ n5_ n6_; clear hb hbox hg; have hnb9 := NB115_109.out; have hnc9 := NB109_115.out; obtain ⟨hcz10_0, hcz10_1, hcz10_2, hcz10_3⟩ := cellsA4 BK115.out; obtain ⟨hfz10_0, hfz10_1, hfz10_2, hfz10_3⟩ := frozA4 BK115.out; obtain ⟨hcz11_0, hcz11_1, hcz11_2, hcz11_3⟩ := cellsA4 BK109.out; obtain ⟨hfz11_0, hfz11_1, hfz11_2, hfz11_3⟩ := frozA4 BK109.out))
   go_ret
   exact ⟨rflE, hbA⟩
  ·rw [if_neg c4] at H
   have c4b0 : (!(t110 == a0_0) || (!(t111 == a0_1) || (!(t112 == a0_2) || (!(t113 == a0_3))))) = false := by simpa using c4
   clear c4
   obtain rfl := Option.some.inj H
   go_enter Tryz.func22, Tryz.ntmps22
   go_wp2_with (first | ((with_reducible refine gate_dst (N := 1) rfl ?_); refine boxE 1 58 (#[.int .i64 a0_0, .int .i64 a0_1, .int .i64 a0_2, .int .i64 a0_3]) ?_; intro gb109 hg w12 hbox hb; have n0_ := Aside0.mk (below_step (hbA) hb); have n1_ := Aside0.mk (hbox); have n2_ := Aside0.mk ((by rw [hg]; exact (below_size (hbA)) : w.heap.size ≤ gb109)); have n3_ := n2_; clear HB; have HB := n0_; have BK109 := n1_; have GW109 := n2_; have GE109 := n3_; clear n0_ n1_ n2_ n3_; clear hb hbox hg; obtain ⟨hcz13_0, hcz13_1, hcz13_2, hcz13_3⟩ := cellsA4 BK109.out; obtain ⟨hfz13_0, hfz13_1, hfz13_2, hfz13_3⟩ := frozA4 BK109.out) | ((with_reducible refine gate_callee (f := 44) rfl ?_); refine goesL_ (some 16) rfl rfl Tryz.func44 (by kernel_rfl) rfl #[.agg #[.int .i64 a0_0, .int .i64 a0_1], .agg #[.int .i64 a0_2, .int .i64 a0_3]] rfl argA ?_; (with_reducible refine (place_Of.calls a0_0 a0_1 a0_2 a0_3 t110 t111 t112 t113 t114 _ A2.out).mono ?_); rintro e w14 ⟨rfl, hb⟩; refine ⟨_, rfl, ?_⟩; have n0_ := Aside0.mk (blk_below (g := gb109) (o := .cells #[.int .i64 a0_0, .int .i64 a0_1, .int .i64 a0_2, .int .i64 a0_3] 58 (0, 0)) (have bk_ := BK109.out; bkA) hb); have n1_ := Aside0.mk (below_step (hbA) hb); clear BK109; clear HB; have BK109 := n0_; have HB := n1_; clear n0_ n1_; (try clear hb); (try clear hb2); (try clear hk); (try clear hi)) | ((with_reducible refine gate_dst (N := 3) rfl ?_); refine boxE 3 58 (#[.int .i64 0, .int .i64 0, .int .i64 0, .int .i64 0]) ?_; intro gb115 hg w15 hbox hb; have n0_ := Aside0.mk (blk_below (g := gb109) (o := .cells #[.int .i64 a0_0, .int .i64 a0_1, .int .i64 a0_2, .int .i64 a0_3] 58 (0, 0)) (have bk_ := BK109.out; bkA) hb); have n1_ := Aside0.mk (below_step (hbA) hb); have n2_ := Aside0.mk (hbox); have n3_ := Aside0.mk ((by rw [hg]; exact (below_size (hbA)) : w.heap.size ≤ gb115)); have n4_ := n3_; have n5_ := Aside0.mk ((by rw [hg]; exact Nat.ne_of_lt (blk_lt (g := gb109) (o := .cells #[.int .i64 a0_0, .int .i64 a0_1, .int .i64 a0_2, .int .i64 a0_3] 58 (0, 0)) (have bk_ := BK109.out; bkA)) : gb109 ≠ gb115)); have n6_ := Aside0.mk n5_.out.symm; clear BK109; clear HB; have BK109 := n0_; have HB := n1_; have BK115 := n2_; have GW115 := n3_; have GE115 := n4_; have NB109_115 := n5_; have NB115_109 := n6_; clear n0_ n1_ n2_ n3_ n4_ n5_ n6_; clear hb hbox hg; have hnb16 := NB115_109.out; have hnc16 := NB109_115.out; obtain ⟨hcz17_0, hcz17_1, hcz17_2, hcz17_3⟩ := cellsA4 BK115.out; obtain ⟨hfz17_0, hfz17_1, hfz17_2, hfz17_3⟩ := frozA4 BK115.out; obtain ⟨hcz18_0, hcz18_1, hcz18_2, hcz18_3⟩ := cellsA4 BK109.out; obtain ⟨hfz18_0, hfz18_1, hfz18_2, hfz18_3⟩ := frozA4 BK109.out))
   go_ret
   exact ⟨rflE, hbA⟩
 ·rw [if_neg c3] at H
  have c3b0 : (t114 == 0) = false := beq_eq_false_iff_ne.mpr c3
  have c3b1 : (t114 != 0) = true := bne_iff_ne.mpr c3
  obtain rfl := Option.some.inj H
  go_enter Tryz.func22, Tryz.ntmps22
  go_wp2_with (first | ((with_reducible refine gate_dst (N := 1) rfl ?_); refine boxE 1 58 (#[.int .i64 a0_0, .int .i64 a0_1, .int .i64 a0_2, .int .i64 a0_3]) ?_; intro gb109 hg w19 hbox hb; have n0_ := Aside0.mk (below_step (hbA) hb); have n1_ := Aside0.mk (hbox); have n2_ := Aside0.mk ((by rw [hg]; exact (below_size (hbA)) : w.heap.size ≤ gb109)); have n3_ := n2_; clear HB; have HB := n0_; have BK109 := n1_; have GW109 := n2_; have GE109 := n3_; clear n0_ n1_ n2_ n3_; clear hb hbox hg; obtain ⟨hcz20_0, hcz20_1, hcz20_2, hcz20_3⟩ := cellsA4 BK109.out; obtain ⟨hfz20_0, hfz20_1, hfz20_2, hfz20_3⟩ := frozA4 BK109.out) | ((with_reducible refine gate_callee (f := 44) rfl ?_); refine goesL_ (some 16) rfl rfl Tryz.func44 (by kernel_rfl) rfl #[.agg #[.int .i64 a0_0, .int .i64 a0_1], .agg #[.int .i64 a0_2, .int .i64 a0_3]] rfl argA ?_; (with_reducible refine (place_Of.calls a0_0 a0_1 a0_2 a0_3 t110 t111 t112 t113 t114 _ A2.out).mono ?_); rintro e w21 ⟨rfl, hb⟩; refine ⟨_, rfl, ?_⟩; have n0_ := Aside0.mk (blk_below (g := gb109) (o := .cells #[.int .i64 a0_0, .int .i64 a0_1, .int .i64 a0_2, .int .i64 a0_3] 58 (0, 0)) (have bk_ := BK109.out; bkA) hb); have n1_ := Aside0.mk (below_step (hbA) hb); clear BK109; clear HB; have BK109 := n0_; have HB := n1_; clear n0_ n1_; (try clear hb); (try clear hb2); (try clear hk); (try clear hi)) | ((with_reducible refine gate_dst (N := 3) rfl ?_); refine boxE 3 58 (#[.int .i64 0, .int .i64 0, .int .i64 0, .int .i64 0]) ?_; intro gb115 hg w22 hbox hb; have n0_ := Aside0.mk (blk_below (g := gb109) (o := .cells #[.int .i64 a0_0, .int .i64 a0_1, .int .i64 a0_2, .int .i64 a0_3] 58 (0, 0)) (have bk_ := BK109.out; bkA) hb); have n1_ := Aside0.mk (below_step (hbA) hb); have n2_ := Aside0.mk (hbox); have n3_ := Aside0.mk ((by rw [hg]; exact (below_size (hbA)) : w.heap.size ≤ gb115)); have n4_ := n3_; have n5_ := Aside0.mk ((by rw [hg]; exact Nat.ne_of_lt (blk_lt (g := gb109) (o := .cells #[.int .i64 a0_0, .int .i64 a0_1, .int .i64 a0_2, .int .i64 a0_3] 58 (0, 0)) (have bk_ := BK109.out; bkA)) : gb109 ≠ gb115)); have n6_ := Aside0.mk n5_.out.symm; clear BK109; clear HB; have BK109 := n0_; have HB := n1_; have BK115 := n2_; have GW115 := n3_; have GE115 := n4_; have NB109_115 := n5_; have NB115_109 := n6_; clear n0_ n1_ n2_ n3_ n4_ n5_ n6_; clear hb hbox hg; have hnb23 := NB115_109.out; have hnc23 := NB109_115.out; obtain ⟨hcz24_0, hcz24_1, hcz24_2, hcz24_3⟩ := cellsA4 BK115.out; obtain ⟨hfz24_0, hfz24_1, hfz24_2, hfz24_3⟩ := frozA4 BK115.out))
  go_ret
  exact ⟨rflE, hbA⟩
end Go.Proofs.YtopdjokncbpghaaGreatDoor.Pr
end
