/-
  Lemmas for the law FAllFTable.
-/
import Derived.Test.YtopdjokncbpghaaGreatDoorSFAllFTable5
import Derived.Test.YtopdjokncbpghaaGreatDoorSFAllFTable6
import Derived.Test.YtopdjokncbpghaaGreatDoorSFAllFTable18
import Derived.Test.YtopdjokncbpghaaGreatDoorSFAllFTable19
import Derived.Test.YtopdjokncbpghaaGreatDoorSFAllFTable17
set_option maxHeartbeats 8000000
set_option maxRecDepth 100000
set_option linter.unusedVariables false
set_option linter.unusedSimpArgs false
section
namespace Go.Proofs.YtopdjokncbpghaaGreatDoor.Pr
open Go.RowKit Go.Proofs.YtopdjokncbpghaaGreatDoorW.PrintWords Go.Proofs.YtopdjokncbpghaaGreatDoorW.PrintLast Go.Proofs.YtopdjokncbpghaaGreatDoorW.PrintMore
attribute [local go_sem] max2_int min2_int max_two min_two max_three min_three max_four min_four   -- for this text's walks alone
def place_Print.f (a0_0 : Int) (a0_1 : Int) (a0_2 : Bool) (a0_3 : Bool) : Option (ByteArray × Int) := (place_is.f a0_0 a0_1).bind fun t207 => (if t207 = true then ((place_Letters.f a0_1).bind fun bt208 => (if a0_3 = true then (if 1 + bt208.1.size ≤ 9223372036854775807 then (if a0_2 = true then (if ((⟨#[36]⟩ : ByteArray) ++ bt208.1).size + 1 ≤ 9223372036854775807 then ((strconv_Itoa.f a0_0).bind fun t210 => (if (((⟨#[36]⟩ : ByteArray) ++ bt208.1) ++ (⟨#[36]⟩ : ByteArray)).size + t210.size ≤ 9223372036854775807 then (some ((((⟨#[36]⟩ : ByteArray) ++ bt208.1) ++ (⟨#[36]⟩ : ByteArray)) ++ t210, 0)) else (none))) else (none)) else ((strconv_Itoa.f a0_0).bind fun t211 => (if ((⟨#[36]⟩ : ByteArray) ++ bt208.1).size + t211.size ≤ 9223372036854775807 then (some (((⟨#[36]⟩ : ByteArray) ++ bt208.1) ++ t211, 0)) else (none)))) else (none)) else (if a0_2 = true then (if bt208.1.size + 1 ≤ 9223372036854775807 then ((strconv_Itoa.f a0_0).bind fun t212 => (if (bt208.1 ++ (⟨#[36]⟩ : ByteArray)).size + t212.size ≤ 9223372036854775807 then (some ((bt208.1 ++ (⟨#[36]⟩ : ByteArray)) ++ t212, 0)) else (none))) else (none)) else ((strconv_Itoa.f a0_0).bind fun t213 => (if bt208.1.size + t213.size ≤ 9223372036854775807 then (some (bt208.1 ++ t213, 0)) else (none)))))) else (some ((⟨#[]⟩ : ByteArray), 2)))
theorem place_Print.calls (a0_0 : Int) (a0_1 : Int) (a0_2 : Bool) (a0_3 : Bool) (r1 : ByteArray) (r2 : Int) (w : World) (h : place_Print.f a0_0 a0_1 a0_2 a0_3 = some (r1, r2)) (hL0 : Aside0 (LaidW w)) :
  Calls Tryz.prog 96 #[.agg #[.int .i64 a0_0, .int .i64 a0_1, .bool a0_2, .bool a0_3]] w fun e w' => e = .returned (.tuple #[.string r1, .int .i64 r2]) ∧ Below w.heap.size w w' := by
 have hu41 := Tryz.underlying41
 have hu39 := Tryz.underlying39
 have HB := Aside0.mk (Below.refl w.heap.size w)
 have H : ((place_is.f a0_0 a0_1).bind fun t207 => (if t207 = true then ((place_Letters.f a0_1).bind fun bt208 => (if a0_3 = true then (if 1 + bt208.1.size ≤ 9223372036854775807 then (if a0_2 = true then (if ((⟨#[36]⟩ : ByteArray) ++ bt208.1).size + 1 ≤ 9223372036854775807 then ((strconv_Itoa.f a0_0).bind fun t210 => (if (((⟨#[36]⟩ : ByteArray) ++ bt208.1) ++ (⟨#[36]⟩ : ByteArray)).size + t210.size ≤ 9223372036854775807 then (some ((((⟨#[36]⟩ : ByteArray) ++ bt208.1) ++ (⟨#[36]⟩ : ByteArray)) ++ t210, 0)) else (none))) else (none)) else ((strconv_Itoa.f a0_0).bind fun t211 => (if ((⟨#[36]⟩ : ByteArray) ++ bt208.1).size + t211.size ≤ 9223372036854775807 then (some (((⟨#[36]⟩ : ByteArray) ++ bt208.1) ++ t211, 0)) else (none)))) else (none)) else (if a0_2 = true then (if bt208.1.size + 1 ≤ 9223372036854775807 then ((strconv_Itoa.f a0_0).bind fun t212 => (if (bt208.1 ++ (⟨#[36]⟩ : ByteArray)).size + t212.size ≤ 9223372036854775807 then (some ((bt208.1 ++ (⟨#[36]⟩ : ByteArray)) ++ t212, 0)) else (none))) else (none)) else ((strconv_Itoa.f a0_0).bind fun t213 => (if bt208.1.size + t213.size ≤ 9223372036854775807 then (some (bt208.1 ++ t213, 0)) else (none)))))) else (some ((⟨#[]⟩ : ByteArray), 2)))) = some (r1, r2) := h
 clear h
 replace H := Option.bind_eq_some_iff.mp H
 obtain ⟨t207, A20, H⟩ := H
 replace H : (if t207 = true then ((place_Letters.f a0_1).bind fun bt208 => (if a0_3 = true then (if 1 + bt208.1.size ≤ 9223372036854775807 then (if a0_2 = true then (if ((⟨#[36]⟩ : ByteArray) ++ bt208.1).size + 1 ≤ 9223372036854775807 then ((strconv_Itoa.f a0_0).bind fun t210 => (if (((⟨#[36]⟩ : ByteArray) ++ bt208.1) ++ (⟨#[36]⟩ : ByteArray)).size + t210.size ≤ 9223372036854775807 then (some ((((⟨#[36]⟩ : ByteArray) ++ bt208.1) ++ (⟨#[36]⟩ : ByteArray)) ++ t210, 0)) else (none))) else (none)) else ((strconv_Itoa.f a0_0).bind fun t211 => (if ((⟨#[36]⟩ : ByteArray) ++ bt208.1).size + t211.size ≤ 9223372036854775807 then (some (((⟨#[36]⟩ : ByteArray) ++ bt208.1) ++ t211, 0)) else (none)))) else (none)) else (if a0_2 = true then (if bt208.1.size + 1 ≤ 9223372036854775807 then ((strconv_Itoa.f a0_0).bind fun t212 => (if (bt208.1 ++ (⟨#[36]⟩ : ByteArray)).size + t212.size ≤ 9223372036854775807 then (some ((bt208.1 ++ (⟨#[36]⟩ : ByteArray)) ++ t212, 0)) else (none))) else (none)) else ((strconv_Itoa.f a0_0).bind fun t213 => (if bt208.1.size + t213.size ≤ 9223372036854775807 then (some (bt208.1 ++ t213, 0)) else (none)))))) else (some ((⟨#[]⟩ : ByteArray), 2))) = some (r1, r2) := H
 have A2 := Aside0.mk A20
 clear A20
 by_cases c3 : t207 = true
 ·subst c3
  have H1 : ((place_Letters.f a0_1).bind fun bt208 => (if a0_3 = true then (if 1 + bt208.1.size ≤ 9223372036854775807 then (if a0_2 = true then (if ((⟨#[36]⟩ : ByteArray) ++ bt208.1).size + 1 ≤ 9223372036854775807 then ((strconv_Itoa.f a0_0).bind fun t210 => (if (((⟨#[36]⟩ : ByteArray) ++ bt208.1) ++ (⟨#[36]⟩ : ByteArray)).size + t210.size ≤ 9223372036854775807 then (some ((((⟨#[36]⟩ : ByteArray) ++ bt208.1) ++ (⟨#[36]⟩ : ByteArray)) ++ t210, 0)) else (none))) else (none)) else ((strconv_Itoa.f a0_0).bind fun t211 => (if ((⟨#[36]⟩ : ByteArray) ++ bt208.1).size + t211.size ≤ 9223372036854775807 then (some (((⟨#[36]⟩ : ByteArray) ++ bt208.1) ++ t211, 0)) else (none)))) else (none)) else (if a0_2 = true then (if bt208.1.size + 1 ≤ 9223372036854775807 then ((strconv_Itoa.f a0_0).bind fun t212 => (if (bt208.1 ++ (⟨#[36]⟩ : ByteArray)).size + t212.size ≤ 9223372036854775807 then (some ((bt208.1 ++ (⟨#[36]⟩ : ByteArray)) ++ t212, 0)) else (none))) else (none)) else ((strconv_Itoa.f a0_0).bind fun t213 => (if bt208.1.size + t213.size ≤ 9223372036854775807 then (some (bt208.1 ++ t213, 0)) else (none)))))) = some (r1, r2) := by rw [if_pos rfl] at H; exact H
  clear H
  have H := H1
  clear H1
  replace H := Option.bind_eq_some_iff.mp H
  obtain ⟨⟨t208, t209⟩, A40, H⟩ := H
  replace H : (if a0_3 = true then (if 1 + t208.size ≤ 9223372036854775807 then (if a0_2 = true then (if ((⟨#[36]⟩ : ByteArray) ++ t208).size + 1 ≤ 9223372036854775807 then ((strconv_Itoa.f a0_0).bind fun t210 => (if (((⟨#[36]⟩ : ByteArray) ++ t208) ++ (⟨#[36]⟩ : ByteArray)).size + t210.size ≤ 9223372036854775807 then (some ((((⟨#[36]⟩ : ByteArray) ++ t208) ++ (⟨#[36]⟩ : ByteArray)) ++ t210, 0)) else (none))) else (none)) else ((strconv_Itoa.f a0_0).bind fun t211 => (if ((⟨#[36]⟩ : ByteArray) ++ t208).size + t211.size ≤ 9223372036854775807 then (some (((⟨#[36]⟩ : ByteArray) ++ t208) ++ t211, 0)) else (none)))) else (none)) else (if a0_2 = true then (if t208.size + 1 ≤ 9223372036854775807 then ((strconv_Itoa.f a0_0).bind fun t212 => (if (t208 ++ (⟨#[36]⟩ : ByteArray)).size + t212.size ≤ 9223372036854775807 then (some ((t208 ++ (⟨#[36]⟩ : ByteArray)) ++ t212, 0)) else (none))) else (none)) else ((strconv_Itoa.f a0_0).bind fun t213 => (if t208.size + t213.size ≤ 9223372036854775807 then (some (t208 ++ t213, 0)) else (none))))) = some (r1, r2) := H
  have A4 := Aside0.mk A40
  clear A40
  by_cases c5 : a0_3 = true
  ·subst c5
   have H1 : (if 1 + t208.size ≤ 9223372036854775807 then (if a0_2 = true then (if ((⟨#[36]⟩ : ByteArray) ++ t208).size + 1 ≤ 9223372036854775807 then ((strconv_Itoa.f a0_0).bind fun t210 => (if (((⟨#[36]⟩ : ByteArray) ++ t208) ++ (⟨#[36]⟩ : ByteArray)).size + t210.size ≤ 9223372036854775807 then (some ((((⟨#[36]⟩ : ByteArray) ++ t208) ++ (⟨#[36]⟩ : ByteArray)) ++ t210, 0)) else (none))) else (none)) else ((strconv_Itoa.f a0_0).bind fun t211 => (if ((⟨#[36]⟩ : ByteArray) ++ t208).size + t211.size ≤ 9223372036854775807 then (some (((⟨#[36]⟩ : ByteArray) ++ t208) ++ t211, 0)) else (none)))) else (none)) = some (r1, r2) := by rw [if_pos rfl] at H; exact H
   clear H
   have H := H1
   clear H1
   by_cases c6 : 1 + t208.size ≤ 9223372036854775807
   ·rw [if_pos c6] at H
    have c6b0 := eq_true c6
    have c6b1 : decide (1 + t208.size ≤ 9223372036854775807) = true := decide_eq_true c6
    try have c6b2 : (9223372036854775807 < 1 + t208.size) = False := eq_false (Nat.not_lt.2 c6)
    by_cases c7 : a0_2 = true
    ·subst c7
     have H1 : (if ((⟨#[36]⟩ : ByteArray) ++ t208).size + 1 ≤ 9223372036854775807 then ((strconv_Itoa.f a0_0).bind fun t210 => (if (((⟨#[36]⟩ : ByteArray) ++ t208) ++ (⟨#[36]⟩ : ByteArray)).size + t210.size ≤ 9223372036854775807 then (some ((((⟨#[36]⟩ : ByteArray) ++ t208) ++ (⟨#[36]⟩ : ByteArray)) ++ t210, 0)) else (none))) else (none)) = some (r1, r2) := by rw [if_pos rfl] at H; exact H
     clear H
     have H := H1
     clear H1
     by_cases c8 : ((⟨#[36]⟩ : ByteArray) ++ t208).size + 1 ≤ 9223372036854775807
     ·rw [if_pos c8] at H
      have c8b0 := eq_true c8
      have c8b1 : decide (((⟨#[36]⟩ : ByteArray) ++ t208).size + 1 ≤ 9223372036854775807) = true := decide_eq_true c8
      try have c8b2 : (9223372036854775807 < ((⟨#[36]⟩ : ByteArray) ++ t208).size + 1) = False := eq_false (Nat.not_lt.2 c8)
      replace H := Option.bind_eq_some_iff.mp H
      obtain ⟨t210, A90, H⟩ := H
      replace H : (if (((⟨#[36]⟩ : ByteArray) ++ t208) ++ (⟨#[36]⟩ : ByteArray)).size + t210.size ≤ 9223372036854775807 then (some ((((⟨#[36]⟩ : ByteArray) ++ t208) ++ (⟨#[36]⟩ : ByteArray)) ++ t210, 0)) else (none)) = some (r1, r2) := H
      have A9 := Aside0.mk A90
      clear A90
      by_cases c10 : (((⟨#[36]⟩ : ByteArray) ++ t208) ++ (⟨#[36]⟩ : ByteArray)).size + t210.size ≤ 9223372036854775807
      ·rw [if_pos c10] at H
       have c10b0 := eq_true c10
       have c10b1 : decide ((((⟨#[36]⟩ : ByteArray) ++ t208) ++ (⟨#[36]⟩ : ByteArray)).size + t210.size ≤ 9223372036854775807) = true := decide_eq_true c10
       try have c10b2 : (9223372036854775807 < (((⟨#[36]⟩ : ByteArray) ++ t208) ++ (⟨#[36]⟩ : ByteArray)).size + t210.size) = False := eq_false (Nat.not_lt.2 c10)
       simp only [Option.some.injEq, Prod.mk.injEq] at H
       obtain ⟨rfl, rfl⟩ := H
       (try (have c8b1n_ := of_decide_eq_true c8b1; simp only [ByteArray.size_append, Int.natCast_add] at c8b1n_))
       (try (have c8b1m_ := of_decide_eq_true c8b1; rw [ByteArray.size_extract, Nat.min_eq_left (by omega), Nat.sub_zero] at c8b1m_))
       (try (have c8b1j_ := of_decide_eq_true c8b1; simp only [ByteArray.size_append, ByteArray.size_extract, show ∀ z : UInt8, (⟨#[z]⟩ : ByteArray).size = 1 from fun _ => rfl] at c8b1j_; (repeat rw [Nat.min_eq_left (by omega)] at c8b1j_); (try simp only [Nat.sub_zero] at c8b1j_); have c8b1f_ := eq_false (Nat.not_lt.2 c8b1j_)))
       (try (have c8b1k_ := of_decide_eq_true c8b1; simp only [ByteArray.size_append, ByteArray.size_extract, show ∀ z : UInt8, (⟨#[z]⟩ : ByteArray).size = 1 from fun _ => rfl] at c8b1k_; (repeat rw [Nat.min_eq_left (by omega)] at c8b1k_); (try simp only [Nat.sub_zero] at c8b1k_); (try simp at c8b1k_)))
       (try (have c10b1n_ := of_decide_eq_true c10b1; simp only [ByteArray.size_append, Int.natCast_add] at c10b1n_))
       (try (have c10b1m_ := of_decide_eq_true c10b1; rw [ByteArray.size_extract, Nat.min_eq_left (by omega), Nat.sub_zero] at c10b1m_))
       (try (have c10b1j_ := of_decide_eq_true c10b1; simp only [ByteArray.size_append, ByteArray.size_extract, show ∀ z : UInt8, (⟨#[z]⟩ : ByteArray).size = 1 from fun _ => rfl] at c10b1j_; (repeat rw [Nat.min_eq_left (by omega)] at c10b1j_); (try simp only [Nat.sub_zero] at c10b1j_); have c10b1f_ := eq_false (Nat.not_lt.2 c10b1j_)))
       (try (have c10b1k_ := of_decide_eq_true c10b1; simp only [ByteArray.size_append, ByteArray.size_extract, show ∀ z : UInt8, (⟨#[z]⟩ : ByteArray).size = 1 from fun _ => rfl] at c10b1k_; (repeat rw [Nat.min_eq_left (by omega)] at c10b1k_); (try simp only [Nat.sub_zero] at c10b1k_); (try simp at c10b1k_)))
       go_enter Tryz.func96, Tryz.ntmps96
       go_wp2_with (first | ((with_reducible refine gate_dst (N := 1) rfl ?_); refine boxE 1 41 (#[.int .i64 a0_0, .int .i64 a0_1, .bool true, .bool true]) ?_; intro gb206 hg w11 hbox hb; have n0_ := Aside0.mk (below_step (hbA) hb); have n1_ := Aside0.mk (hbox); have n2_ := Aside0.mk ((by rw [hg]; exact (below_size (hbA)) : w.heap.size ≤ gb206)); have n3_ := n2_; clear HB; have HB := n0_; have BK206 := n1_; have GW206 := n2_; have GE206 := n3_; clear n0_ n1_ n2_ n3_; clear hb hbox hg; obtain ⟨hcz12_0, hcz12_1, hcz12_2, hcz12_3⟩ := cellsA4 BK206.out; obtain ⟨hfz12_0, hfz12_1, hfz12_2, hfz12_3⟩ := frozA4 BK206.out) | ((with_reducible refine gate_callee (f := 63) rfl ?_); refine goesL_ (some 8) rfl rfl Tryz.func63 (by kernel_rfl) rfl #[.agg #[.int .i64 a0_0, .int .i64 a0_1]] rfl argA ?_; (with_reducible refine (place_is.calls a0_0 a0_1 true _ A2.out).mono ?_); rintro e w13 ⟨rfl, hb⟩; refine ⟨_, rfl, ?_⟩; have n0_ := Aside0.mk (blk_below (g := gb206) (o := .cells #[.int .i64 a0_0, .int .i64 a0_1, .bool true, .bool true] 41 (0, 0)) (have bk_ := BK206.out; bkA) hb); have n1_ := Aside0.mk (below_step (hbA) hb); clear BK206; clear HB; have BK206 := n0_; have HB := n1_; clear n0_ n1_; (try clear hb); (try clear hb2); (try clear hk); (try clear hi); obtain ⟨hcz14_0, hcz14_1, hcz14_2, hcz14_3⟩ := cellsA4 BK206.out; obtain ⟨hfz14_0, hfz14_1, hfz14_2, hfz14_3⟩ := frozA4 BK206.out) | ((with_reducible refine gate_callee (f := 118) rfl ?_); refine goesL_ (some 14) rfl rfl Tryz.func118 (by kernel_rfl) rfl #[.int .i64 a0_1] rfl argA ?_; (with_reducible refine (place_Letters.calls a0_1 t208 t209 _ A4.out).mono ?_); rintro e w15 ⟨rfl, hb⟩; refine ⟨_, rfl, ?_⟩; have n0_ := Aside0.mk (blk_below (g := gb206) (o := .cells #[.int .i64 a0_0, .int .i64 a0_1, .bool true, .bool true] 41 (0, 0)) (have bk_ := BK206.out; bkA) hb); have n1_ := Aside0.mk (below_step (hbA) hb); clear BK206; clear HB; have BK206 := n0_; have HB := n1_; clear n0_ n1_; (try clear hb); (try clear hb2); (try clear hk); (try clear hi); obtain ⟨hcz16_0, hcz16_1, hcz16_2, hcz16_3⟩ := cellsA4 BK206.out; obtain ⟨hfz16_0, hfz16_1, hfz16_2, hfz16_3⟩ := frozA4 BK206.out) | ((with_reducible refine gate_callee (f := 119) rfl ?_); refine goesL_ (some 29) rfl rfl Tryz.func119 (by kernel_rfl) rfl #[.int .i64 a0_0] rfl argA ?_; (with_reducible refine (strconv_Itoa.calls a0_0 t210 _ A9.out (LaidAt hL0 (hbA))).mono ?_); rintro e w17 ⟨rfl, hb⟩; refine ⟨_, rfl, ?_⟩; have n0_ := Aside0.mk (blk_below (g := gb206) (o := .cells #[.int .i64 a0_0, .int .i64 a0_1, .bool true, .bool true] 41 (0, 0)) (have bk_ := BK206.out; bkA) hb); have n1_ := Aside0.mk (below_step (hbA) hb); clear BK206; clear HB; have BK206 := n0_; have HB := n1_; clear n0_ n1_; (try clear hb); (try clear hb2); (try clear hk); (try clear hi)))
       go_ret2
       exact ⟨rflE, hbA⟩
      ·rw [if_neg c10] at H
       exact absurd H (by simp)
     ·rw [if_neg c8] at H
      exact absurd H (by simp)
    ·replace c7 := Bool.eq_false_iff.mpr c7
     subst c7
     have H1 : ((strconv_Itoa.f a0_0).bind fun t211 => (if ((⟨#[36]⟩ : ByteArray) ++ t208).size + t211.size ≤ 9223372036854775807 then (some (((⟨#[36]⟩ : ByteArray) ++ t208) ++ t211, 0)) else (none))) = some (r1, r2) := by rw [if_neg (show ¬ (false = true) by decide)] at H; exact H
     clear H
     have H := H1
     clear H1
     replace H := Option.bind_eq_some_iff.mp H
     obtain ⟨t211, A180, H⟩ := H
     replace H : (if ((⟨#[36]⟩ : ByteArray) ++ t208).size + t211.size ≤ 9223372036854775807 then (some (((⟨#[36]⟩ : ByteArray) ++ t208) ++ t211, 0)) else (none)) = some (r1, r2) := H
     have A18 := Aside0.mk A180
     clear A180
     by_cases c19 : ((⟨#[36]⟩ : ByteArray) ++ t208).size + t211.size ≤ 9223372036854775807
     ·rw [if_pos c19] at H
      have c19b0 := eq_true c19
      have c19b1 : decide (((⟨#[36]⟩ : ByteArray) ++ t208).size + t211.size ≤ 9223372036854775807) = true := decide_eq_true c19
      try have c19b2 : (9223372036854775807 < ((⟨#[36]⟩ : ByteArray) ++ t208).size + t211.size) = False := eq_false (Nat.not_lt.2 c19)
      simp only [Option.some.injEq, Prod.mk.injEq] at H
      obtain ⟨rfl, rfl⟩ := H
      (try (have c19b1n_ := of_decide_eq_true c19b1; simp only [ByteArray.size_append, Int.natCast_add] at c19b1n_))
      (try (have c19b1m_ := of_decide_eq_true c19b1; rw [ByteArray.size_extract, Nat.min_eq_left (by omega), Nat.sub_zero] at c19b1m_))
      (try (have c19b1j_ := of_decide_eq_true c19b1; simp only [ByteArray.size_append, ByteArray.size_extract, show ∀ z : UInt8, (⟨#[z]⟩ : ByteArray).size = 1 from fun _ => rfl] at c19b1j_; (repeat rw [Nat.min_eq_left (by omega)] at c19b1j_); (try simp only [Nat.sub_zero] at c19b1j_); have c19b1f_ := eq_false (Nat.not_lt.2 c19b1j_)))
      (try (have c19b1k_ := of_decide_eq_true c19b1; simp only [ByteArray.size_append, ByteArray.size_extract, show ∀ z : UInt8, (⟨#[z]⟩ : ByteArray).size = 1 from fun _ => rfl] at c19b1k_; (repeat rw [Nat.min_eq_left (by omega)] at c19b1k_); (try simp only [Nat.sub_zero] at c19b1k_); (try simp at c19b1k_)))
      go_enter Tryz.func96, Tryz.ntmps96
      go_wp2_with (first | ((with_reducible refine gate_dst (N := 1) rfl ?_); refine boxE 1 41 (#[.int .i64 a0_0, .int .i64 a0_1, .bool false, .bool true]) ?_; intro gb206 hg w20 hbox hb; have n0_ := Aside0.mk (below_step (hbA) hb); have n1_ := Aside0.mk (hbox); have n2_ := Aside0.mk ((by rw [hg]; exact (below_size (hbA)) : w.heap.size ≤ gb206)); have n3_ := n2_; clear HB; have HB := n0_; have BK206 := n1_; have GW206 := n2_; have GE206 := n3_; clear n0_ n1_ n2_ n3_; clear hb hbox hg; obtain ⟨hcz21_0, hcz21_1, hcz21_2, hcz21_3⟩ := cellsA4 BK206.out; obtain ⟨hfz21_0, hfz21_1, hfz21_2, hfz21_3⟩ := frozA4 BK206.out) | ((with_reducible refine gate_callee (f := 63) rfl ?_); refine goesL_ (some 8) rfl rfl Tryz.func63 (by kernel_rfl) rfl #[.agg #[.int .i64 a0_0, .int .i64 a0_1]] rfl argA ?_; (with_reducible refine (place_is.calls a0_0 a0_1 true _ A2.out).mono ?_); rintro e w22 ⟨rfl, hb⟩; refine ⟨_, rfl, ?_⟩; have n0_ := Aside0.mk (blk_below (g := gb206) (o := .cells #[.int .i64 a0_0, .int .i64 a0_1, .bool false, .bool true] 41 (0, 0)) (have bk_ := BK206.out; bkA) hb); have n1_ := Aside0.mk (below_step (hbA) hb); clear BK206; clear HB; have BK206 := n0_; have HB := n1_; clear n0_ n1_; (try clear hb); (try clear hb2); (try clear hk); (try clear hi); obtain ⟨hcz23_0, hcz23_1, hcz23_2, hcz23_3⟩ := cellsA4 BK206.out; obtain ⟨hfz23_0, hfz23_1, hfz23_2, hfz23_3⟩ := frozA4 BK206.out) | ((with_reducible refine gate_callee (f := 118) rfl ?_); refine goesL_ (some 14) rfl rfl Tryz.func118 (by kernel_rfl) rfl #[.int .i64 a0_1] rfl argA ?_; (with_reducible refine (place_Letters.calls a0_1 t208 t209 _ A4.out).mono ?_); rintro e w24 ⟨rfl, hb⟩; refine ⟨_, rfl, ?_⟩; have n0_ := Aside0.mk (blk_below (g := gb206) (o := .cells #[.int .i64 a0_0, .int .i64 a0_1, .bool false, .bool true] 41 (0, 0)) (have bk_ := BK206.out; bkA) hb); have n1_ := Aside0.mk (below_step (hbA) hb); clear BK206; clear HB; have BK206 := n0_; have HB := n1_; clear n0_ n1_; (try clear hb); (try clear hb2); (try clear hk); (try clear hi); obtain ⟨hcz25_0, hcz25_1, hcz25_2, hcz25_3⟩ := cellsA4 BK206.out; obtain ⟨hfz25_0, hfz25_1, hfz25_2, hfz25_3⟩ := frozA4 BK206.out) | ((with_reducible refine gate_callee (f := 119) rfl ?_); refine goesL_ (some 29) rfl rfl Tryz.func119 (by kernel_rfl) rfl #[.int .i64 a0_0] rfl argA ?_; (with_reducible refine (strconv_Itoa.calls a0_0 t211 _ A18.out (LaidAt hL0 (hbA))).mono ?_); rintro e w26 ⟨rfl, hb⟩; refine ⟨_, rfl, ?_⟩; have n0_ := Aside0.mk (blk_below (g := gb206) (o := .cells #[.int .i64 a0_0, .int .i64 a0_1, .bool false, .bool true] 41 (0, 0)) (have bk_ := BK206.out; bkA) hb); have n1_ := Aside0.mk (below_step (hbA) hb); clear BK206; clear HB; have BK206 := n0_; have HB := n1_; clear n0_ n1_; (try clear hb); (try clear hb2); (try clear hk); (try clear hi)))
      go_ret2
      exact ⟨rflE, hbA⟩
     ·rw [if_neg c19] at H
      exact absurd H (by simp)
   ·rw [if_neg c6] at H
    exact absurd H (by simp)
  ·replace c5 := Bool.eq_false_iff.mpr c5
   subst c5
   have H1 : (if a0_2 = true then (if t208.size + 1 ≤ 9223372036854775807 then ((strconv_Itoa.f a0_0).bind fun t212 => (if (t208 ++ (⟨#[36]⟩ : ByteArray)).size + t212.size ≤ 9223372036854775807 then (some ((t208 ++ (⟨#[36]⟩ : ByteArray)) ++ t212, 0)) else (none))) else (none)) else ((strconv_Itoa.f a0_0).bind fun t213 => (if t208.size + t213.size ≤ 9223372036854775807 then (some (t208 ++ t213, 0)) else (none)))) = some (r1, r2) := by rw [if_neg (show ¬ (false = true) by decide)] at H; exact H
   clear H
   have H := H1
   clear H1
   by_cases c27 : a0_2 = true
   ·subst c27
    have H1 : (if t208.size + 1 ≤ 9223372036854775807 then ((strconv_Itoa.f a0_0).bind fun t212 => (if (t208 ++ (⟨#[36]⟩ : ByteArray)).size + t212.size ≤ 9223372036854775807 then (some ((t208 ++ (⟨#[36]⟩ : ByteArray)) ++ t212, 0)) else (none))) else (none)) = some (r1, r2) := by rw [if_pos rfl] at H; exact H
    clear H
    have H := H1
    clear H1
    by_cases c28 : t208.size + 1 ≤ 9223372036854775807
    ·rw [if_pos c28] at H
     have c28b0 := eq_true c28
     have c28b1 : decide (t208.size + 1 ≤ 9223372036854775807) = true := decide_eq_true c28
     try have c28b2 : (9223372036854775807 < t208.size + 1) = False := eq_false (Nat.not_lt.2 c28)
     replace H := Option.bind_eq_some_iff.mp H
     obtain ⟨t212, A290, H⟩ := H
     replace H : (if (t208 ++ (⟨#[36]⟩ : ByteArray)).size + t212.size ≤ 9223372036854775807 then (some ((t208 ++ (⟨#[36]⟩ : ByteArray)) ++ t212, 0)) else (none)) = some (r1, r2) := H
     have A29 := Aside0.mk A290
     clear A290
     by_cases c30 : (t208 ++ (⟨#[36]⟩ : ByteArray)).size + t212.size ≤ 9223372036854775807
     ·rw [if_pos c30] at H
      have c30b0 := eq_true c30
      have c30b1 : decide ((t208 ++ (⟨#[36]⟩ : ByteArray)).size + t212.size ≤ 9223372036854775807) = true := decide_eq_true c30
      try have c30b2 : (9223372036854775807 < (t208 ++ (⟨#[36]⟩ : ByteArray)).size + t212.size) = False := eq_false (Nat.not_lt.2 c30)
      simp only [Option.some.injEq, Prod.mk.injEq] at H
      obtain ⟨rfl, rfl⟩ := H
      (try (have c30b1n_ := of_decide_eq_true c30b1; simp only [ByteArray.size_append, Int.natCast_add] at c30b1n_))
      (try (have c30b1m_ := of_decide_eq_true c30b1; rw [ByteArray.size_extract, Nat.min_eq_left (by omega), Nat.sub_zero] at c30b1m_))
      (try (have c30b1j_ := of_decide_eq_true c30b1; simp only [ByteArray.size_append, ByteArray.size_extract, show ∀ z : UInt8, (⟨#[z]⟩ : ByteArray).size = 1 from fun _ => rfl] at c30b1j_; (repeat rw [Nat.min_eq_left (by omega)] at c30b1j_); (try simp only [Nat.sub_zero] at c30b1j_); have c30b1f_ := eq_false (Nat.not_lt.2 c30b1j_)))
      (try (have c30b1k_ := of_decide_eq_true c30b1; simp only [ByteArray.size_append, ByteArray.size_extract, show ∀ z : UInt8, (⟨#[z]⟩ : ByteArray).size = 1 from fun _ => rfl] at c30b1k_; (repeat rw [Nat.min_eq_left (by omega)] at c30b1k_); (try simp only [Nat.sub_zero] at c30b1k_); (try simp at c30b1k_)))
      go_enter Tryz.func96, Tryz.ntmps96
      go_wp2_with (first | ((with_reducible refine gate_dst (N := 1) rfl ?_); refine boxE 1 41 (#[.int .i64 a0_0, .int .i64 a0_1, .bool true, .bool false]) ?_; intro gb206 hg w31 hbox hb; have n0_ := Aside0.mk (below_step (hbA) hb); have n1_ := Aside0.mk (hbox); have n2_ := Aside0.mk ((by rw [hg]; exact (below_size (hbA)) : w.heap.size ≤ gb206)); have n3_ := n2_; clear HB; have HB := n0_; have BK206 := n1_; have GW206 := n2_; have GE206 := n3_; clear n0_ n1_ n2_ n3_; clear hb hbox hg; obtain ⟨hcz32_0, hcz32_1, hcz32_2, hcz32_3⟩ := cellsA4 BK206.out; obtain ⟨hfz32_0, hfz32_1, hfz32_2, hfz32_3⟩ := frozA4 BK206.out) | ((with_reducible refine gate_callee (f := 63) rfl ?_); refine goesL_ (some 8) rfl rfl Tryz.func63 (by kernel_rfl) rfl #[.agg #[.int .i64 a0_0, .int .i64 a0_1]] rfl argA ?_; (with_reducible refine (place_is.calls a0_0 a0_1 true _ A2.out).mono ?_); rintro e w33 ⟨rfl, hb⟩; refine ⟨_, rfl, ?_⟩; have n0_ := Aside0.mk (blk_below (g := gb206) (o := .cells #[.int .i64 a0_0, .int .i64 a0_1, .bool true, .bool false] 41 (0, 0)) (have bk_ := BK206.out; bkA) hb); have n1_ := Aside0.mk (below_step (hbA) hb); clear BK206; clear HB; have BK206 := n0_; have HB := n1_; clear n0_ n1_; (try clear hb); (try clear hb2); (try clear hk); (try clear hi); obtain ⟨hcz34_0, hcz34_1, hcz34_2, hcz34_3⟩ := cellsA4 BK206.out; obtain ⟨hfz34_0, hfz34_1, hfz34_2, hfz34_3⟩ := frozA4 BK206.out) | ((with_reducible refine gate_callee (f := 118) rfl ?_); refine goesL_ (some 14) rfl rfl Tryz.func118 (by kernel_rfl) rfl #[.int .i64 a0_1] rfl argA ?_; (with_reducible refine (place_Letters.calls a0_1 t208 t209 _ A4.out).mono ?_); rintro e w35 ⟨rfl, hb⟩; refine ⟨_, rfl, ?_⟩; have n0_ := Aside0.mk (blk_below (g := gb206) (o := .cells #[.int .i64 a0_0, .int .i64 a0_1, .bool true, .bool false] 41 (0, 0)) (have bk_ := BK206.out; bkA) hb); have n1_ := Aside0.mk (below_step (hbA) hb); clear BK206; clear HB; have BK206 := n0_; have HB := n1_; clear n0_ n1_; (try clear hb); (try clear hb2); (try clear hk); (try clear hi); obtain ⟨hcz36_0, hcz36_1, hcz36_2, hcz36_3⟩ := cellsA4 BK206.out; obtain ⟨hfz36_0, hfz36_1, hfz36_2, hfz36_3⟩ := frozA4 BK206.out) | ((with_reducible refine gate_callee (f := 119) rfl ?_); refine goesL_ (some 29) rfl rfl Tryz.func119 (by kernel_rfl) rfl #[.int .i64 a0_0] rfl argA ?_; (with_reducible refine (strconv_Itoa.calls a0_0 t212 _ A29.out (LaidAt hL0 (hbA))).mono ?_); rintro e w37 ⟨rfl, hb⟩; refine ⟨_, rfl, ?_⟩; have n0_ := Aside0.mk (blk_below (g := gb206) (o := .cells #[.int .i64 a0_0, .int .i64 a0_1, .bool true, .bool false] 41 (0, 0)) (have bk_ := BK206.out; bkA) hb); have n1_ := Aside0.mk (below_step (hbA) hb); clear BK206; clear HB; have BK206 := n0_; have HB := n1_; clear n0_ n1_; (try clear hb); (try clear hb2); (try clear hk); (try clear hi)))
      go_ret2
      exact ⟨rflE, hbA⟩
     ·rw [if_neg c30] at H
      exact absurd H (by simp)
    ·rw [if_neg c28] at H
     exact absurd H (by simp)
   ·replace c27 := Bool.eq_false_iff.mpr c27
    subst c27
    have H1 : ((strconv_Itoa.f a0_0).bind fun t213 => (if t208.size + t213.size ≤ 9223372036854775807 then (some (t208 ++ t213, 0)) else (none))) = some (r1, r2) := by rw [if_neg (show ¬ (false = true) by decide)] at H; exact H
    clear H
    have H := H1
    clear H1
    replace H := Option.bind_eq_some_iff.mp H
    obtain ⟨t213, A380, H⟩ := H
    replace H : (if t208.size + t213.size ≤ 9223372036854775807 then (some (t208 ++ t213, 0)) else (none)) = some (r1, r2) := H
    have A38 := Aside0.mk A380
    clear A380
    by_cases c39 : t208.size + t213.size ≤ 9223372036854775807
    ·rw [if_pos c39] at H
     have c39b0 := eq_true c39
     have c39b1 : decide (t208.size + t213.size ≤ 9223372036854775807) = true := decide_eq_true c39
     try have c39b2 : (9223372036854775807 < t208.size + t213.size) = False := eq_false (Nat.not_lt.2 c39)
     simp only [Option.some.injEq, Prod.mk.injEq] at H
     obtain ⟨rfl, rfl⟩ := H
     go_enter Tryz.func96, Tryz.ntmps96
     go_wp2_with (first | ((with_reducible refine gate_dst (N := 1) rfl ?_); refine boxE 1 41 (#[.int .i64 a0_0, .int .i64 a0_1, .bool false, .bool false]) ?_; intro gb206 hg w40 hbox hb; have n0_ := Aside0.mk (below_step (hbA) hb); have n1_ := Aside0.mk (hbox); have n2_ := Aside0.mk ((by rw [hg]; exact (below_size (hbA)) : w.heap.size ≤ gb206)); have n3_ := n2_; clear HB; have HB := n0_; have BK206 := n1_; have GW206 := n2_; have GE206 := n3_; clear n0_ n1_ n2_ n3_; clear hb hbox hg; obtain ⟨hcz41_0, hcz41_1, hcz41_2, hcz41_3⟩ := cellsA4 BK206.out; obtain ⟨hfz41_0, hfz41_1, hfz41_2, hfz41_3⟩ := frozA4 BK206.out) | ((with_reducible refine gate_callee (f := 63) rfl ?_); refine goesL_ (some 8) rfl rfl Tryz.func63 (by kernel_rfl) rfl #[.agg #[.int .i64 a0_0, .int .i64 a0_1]] rfl argA ?_; (with_reducible refine (place_is.calls a0_0 a0_1 true _ A2.out).mono ?_); rintro e w42 ⟨rfl, hb⟩; refine ⟨_, rfl, ?_⟩; have n0_ := Aside0.mk (blk_below (g := gb206) (o := .cells #[.int .i64 a0_0, .int .i64 a0_1, .bool false, .bool false] 41 (0, 0)) (have bk_ := BK206.out; bkA) hb); have n1_ := Aside0.mk (below_step (hbA) hb); clear BK206; clear HB; have BK206 := n0_; have HB := n1_; clear n0_ n1_; (try clear hb); (try clear hb2); (try clear hk); (try clear hi); obtain ⟨hcz43_0, hcz43_1, hcz43_2, hcz43_3⟩ := cellsA4 BK206.out; obtain ⟨hfz43_0, hfz43_1, hfz43_2, hfz43_3⟩ := frozA4 BK206.out) | ((with_reducible refine gate_callee (f := 118) rfl ?_); refine goesL_ (some 14) rfl rfl Tryz.func118 (by kernel_rfl) rfl #[.int .i64 a0_1] rfl argA ?_; (with_reducible refine (place_Letters.calls a0_1 t208 t209 _ A4.out).mono ?_); rintro e w44 ⟨rfl, hb⟩; refine ⟨_, rfl, ?_⟩; have n0_ := Aside0.mk (blk_below (g := gb206) (o := .cells #[.int .i64 a0_0, .int .i64 a0_1, .bool false, .bool false] 41 (0, 0)) (have bk_ := BK206.out; bkA) hb); have n1_ := Aside0.mk (below_step (hbA) hb); clear BK206; clear HB; have BK206 := n0_; have HB := n1_; clear n0_ n1_; (try clear hb); (try clear hb2); (try clear hk); (try clear hi); obtain ⟨hcz45_0, hcz45_1, hcz45_2, hcz45_3⟩ := cellsA4 BK206.out; obtain ⟨hfz45_0, hfz45_1, hfz45_2, hfz45_3⟩ := frozA4 BK206.out) | ((with_reducible refine gate_callee (f := 119) rfl ?_); refine goesL_ (some 29) rfl rfl Tryz.func119 (by kernel_rfl) rfl #[.int .i64 a0_0] rfl argA ?_; (with_reducible refine (strconv_Itoa.calls a0_0 t213 _ A38.out (LaidAt hL0 (hbA))).mono ?_); rintro e w46 ⟨rfl, hb⟩; refine ⟨_, rfl, ?_⟩; have n0_ := Aside0.mk (blk_below (g := gb206) (o := .cells #[.int .i64 a0_0, .int .i64 a0_1, .bool false, .bool false] 41 (0, 0)) (have bk_ := BK206.out; bkA) hb); have n1_ := Aside0.mk (below_step (hbA) hb); clear BK206; clear HB; have BK206 := n0_; have HB := n1_; clear n0_ n1_; (try clear hb); (try clear hb2); (try clear hk); (try clear hi)))
     go_ret2
     exact ⟨rflE, hbA⟩
    ·rw [if_neg c39] at H
     exact absurd H (by simp)
 ·replace c3 := Bool.eq_false_iff.mpr c3
  subst c3
  have H1 : (some ((⟨#[]⟩ : ByteArray), 2)) = some (r1, r2) := by rw [if_neg (show ¬ (false = true) by decide)] at H; exact H
  clear H
  have H := H1
  clear H1
  simp only [Option.some.injEq, Prod.mk.injEq] at H
  obtain ⟨rfl, rfl⟩ := H
  go_enter Tryz.func96, Tryz.ntmps96
  go_wp2_with (first | ((with_reducible refine gate_dst (N := 1) rfl ?_); refine boxE 1 41 (#[.int .i64 a0_0, .int .i64 a0_1, .bool a0_2, .bool a0_3]) ?_; intro gb206 hg w47 hbox hb; have n0_ := Aside0.mk (below_step (hbA) hb); have n1_ := Aside0.mk (hbox); have n2_ := Aside0.mk ((by rw [hg]; exact (below_size (hbA)) : w.heap.size ≤ gb206)); have n3_ := n2_; clear HB; have HB := n0_; have BK206 := n1_; have GW206 := n2_; have GE206 := n3_; clear n0_ n1_ n2_ n3_; clear hb hbox hg; obtain ⟨hcz48_0, hcz48_1, hcz48_2, hcz48_3⟩ := cellsA4 BK206.out; obtain ⟨hfz48_0, hfz48_1, hfz48_2, hfz48_3⟩ := frozA4 BK206.out) | ((with_reducible refine gate_callee (f := 63) rfl ?_); refine goesL_ (some 8) rfl rfl Tryz.func63 (by kernel_rfl) rfl #[.agg #[.int .i64 a0_0, .int .i64 a0_1]] rfl argA ?_; (with_reducible refine (place_is.calls a0_0 a0_1 false _ A2.out).mono ?_); rintro e w49 ⟨rfl, hb⟩; refine ⟨_, rfl, ?_⟩; have n0_ := Aside0.mk (blk_below (g := gb206) (o := .cells #[.int .i64 a0_0, .int .i64 a0_1, .bool a0_2, .bool a0_3] 41 (0, 0)) (have bk_ := BK206.out; bkA) hb); have n1_ := Aside0.mk (below_step (hbA) hb); clear BK206; clear HB; have BK206 := n0_; have HB := n1_; clear n0_ n1_; (try clear hb); (try clear hb2); (try clear hk); (try clear hi)))
  go_ret2
  exact ⟨rflE, hbA⟩
def tree_cell.f (a0_0 : Int) (a0_1 : Int) (a0_2 : Bool) (a0_3 : Bool) : Option (Bool) := (place_Print.f a0_0 a0_1 a0_2 a0_3).bind fun bt215 => (some (bt215.2 == 0))
theorem tree_cell.calls (a0_0 : Int) (a0_1 : Int) (a0_2 : Bool) (a0_3 : Bool) (r : Bool) (w : World) (h : tree_cell.f a0_0 a0_1 a0_2 a0_3 = some r) (hL0 : Aside0 (LaidW w)) :
  Calls Tryz.prog 76 #[.agg #[.int .i64 a0_0, .int .i64 a0_1, .bool a0_2, .bool a0_3]] w fun e w' => e = .returned (.bool r) ∧ Below w.heap.size w w' := by
 have hu41 := Tryz.underlying41
 have HB := Aside0.mk (Below.refl w.heap.size w)
 have H : ((place_Print.f a0_0 a0_1 a0_2 a0_3).bind fun bt215 => (some (bt215.2 == 0))) = some r := h
 clear h
 replace H := Option.bind_eq_some_iff.mp H
 obtain ⟨⟨t215, t216⟩, A20, H⟩ := H
 replace H : (some (t216 == 0)) = some r := H
 have A2 := Aside0.mk A20
 clear A20
 obtain rfl := Option.some.inj H
 go_enter Tryz.func76, Tryz.ntmps76
 go_wp2_with (first | ((with_reducible refine gate_dst (N := 1) rfl ?_); refine boxE 1 41 (#[.int .i64 a0_0, .int .i64 a0_1, .bool a0_2, .bool a0_3]) ?_; intro gb214 hg w3 hbox hb; have n0_ := Aside0.mk (below_step (hbA) hb); have n1_ := Aside0.mk (hbox); have n2_ := Aside0.mk ((by rw [hg]; exact (below_size (hbA)) : w.heap.size ≤ gb214)); have n3_ := n2_; clear HB; have HB := n0_; have BK214 := n1_; have GW214 := n2_; have GE214 := n3_; clear n0_ n1_ n2_ n3_; clear hb hbox hg; obtain ⟨hcz4_0, hcz4_1, hcz4_2, hcz4_3⟩ := cellsA4 BK214.out; obtain ⟨hfz4_0, hfz4_1, hfz4_2, hfz4_3⟩ := frozA4 BK214.out) | ((with_reducible refine gate_callee (f := 96) rfl ?_); refine goesL_ (some 7) rfl rfl Tryz.func96 (by kernel_rfl) rfl #[.agg #[.int .i64 a0_0, .int .i64 a0_1, .bool a0_2, .bool a0_3]] rfl argA ?_; (with_reducible refine (place_Print.calls a0_0 a0_1 a0_2 a0_3 t215 t216 _ A2.out (LaidAt hL0 (hbA))).mono ?_); rintro e w5 ⟨rfl, hb⟩; refine ⟨_, rfl, ?_⟩; have n0_ := Aside0.mk (blk_below (g := gb214) (o := .cells #[.int .i64 a0_0, .int .i64 a0_1, .bool a0_2, .bool a0_3] 41 (0, 0)) (have bk_ := BK214.out; bkA) hb); have n1_ := Aside0.mk (below_step (hbA) hb); clear BK214; clear HB; have BK214 := n0_; have HB := n1_; clear n0_ n1_; (try clear hb); (try clear hb2); (try clear hk); (try clear hi)))
 go_ret
 exact ⟨rflE, hbA⟩
mutual
def tree_line.j0 : Nat → ByteArray → Bool → Option (Int)
 | 0, _, _ => none
 | k + 1, x3, x4 => if x4 = true then (some 0) else (if x3.toList = ([38] : List UInt8) then (some 1) else (if x3.toList = ([43] : List UInt8) then (tree_line.j1 k x3 (x3.toList == ([43] : List UInt8))) else (tree_line.j1 k x3 (x3.toList == ([45] : List UInt8)))))
def tree_line.j1 : Nat → ByteArray → Bool → Option (Int)
 | 0, _, _ => none
 | k + 1, x3, x13 => if x13 = true then (some 2) else (if x3.toList = ([42] : List UInt8) then (some 3) else (if x3.toList = ([47] : List UInt8) then (some 3) else (some (-1))))
end
def tree_line.f (k : Nat) (a0 : ByteArray) : Option (Int) := if a0.toList = ([61] : List UInt8) then (tree_line.j0 k a0 (a0.toList == ([61] : List UInt8))) else (if a0.toList = ([60, 62] : List UInt8) then (tree_line.j0 k a0 (a0.toList == ([60, 62] : List UInt8))) else (if a0.toList = ([60] : List UInt8) then (tree_line.j0 k a0 (a0.toList == ([60] : List UInt8))) else (if a0.toList = ([62] : List UInt8) then (tree_line.j0 k a0 (a0.toList == ([62] : List UInt8))) else (if a0.toList = ([60, 61] : List UInt8) then (tree_line.j0 k a0 (a0.toList == ([60, 61] : List UInt8))) else (tree_line.j0 k a0 (a0.toList == ([62, 61] : List UInt8)))))))
theorem tree_line.calls (k : Nat) (a0 : ByteArray) (r : Int) (w : World) (h : tree_line.f k a0 = some r) :
  Calls Tryz.prog 77 #[.string a0] w fun e w' => e = .returned (.int .i64 r) ∧ Drawn0 w w' := by
 have H : (if a0.toList = ([61] : List UInt8) then (tree_line.j0 k a0 (a0.toList == ([61] : List UInt8))) else (if a0.toList = ([60, 62] : List UInt8) then (tree_line.j0 k a0 (a0.toList == ([60, 62] : List UInt8))) else (if a0.toList = ([60] : List UInt8) then (tree_line.j0 k a0 (a0.toList == ([60] : List UInt8))) else (if a0.toList = ([62] : List UInt8) then (tree_line.j0 k a0 (a0.toList == ([62] : List UInt8))) else (if a0.toList = ([60, 61] : List UInt8) then (tree_line.j0 k a0 (a0.toList == ([60, 61] : List UInt8))) else (tree_line.j0 k a0 (a0.toList == ([62, 61] : List UInt8)))))))) = some r := h
 clear h
 have HC2 := Aside0.mk H
 clear H
 go_enter Tryz.func77, Tryz.ntmps77
 go_upto_if 4 with (fail)
 go_cut [4] (fun v4 wc => ∃ (kq : Nat) (x4_1 : Bool), v4 = .bool x4_1 ∧ Aside0 (tree_line.j0 kq a0 x4_1 = some r) ∧ Aside0 (kq ≤ k) ∧ Drawn0 w wc)
 case first =>
  have H := HC2.out
  clear HC2
  by_cases c3 : a0.toList = ([61] : List UInt8)
  ·rw [if_pos c3] at H
   have c3b0 : (a0.toList == ([61] : List UInt8)) = true := beq_iff_eq.mpr c3
   have c3b1 : (a0.toList != ([61] : List UInt8)) = false := bne_eq_false_iff_eq.mpr c3
   clear c3
   (first | rw [c3b0] | (simp only [i64_w, i32_w]; rw [c3b0]) | skip)
   have H' := Aside0.mk H
   clear H
   go_wp2
   go_meet
   case rel => exact ⟨_, ((a0.toList == ([61] : List UInt8))), (rflS), H', ⟨by first | omega | exact Nat.le_refl _⟩, drA⟩
  ·rw [if_neg c3] at H
   have c3b0 : (a0.toList == ([61] : List UInt8)) = false := beq_eq_false_iff_ne.mpr c3
   have c3b1 : (a0.toList != ([61] : List UInt8)) = true := bne_iff_ne.mpr c3
   (first | rw [c3b0] | (simp only [i64_w, i32_w]; rw [c3b0]) | skip)
   by_cases c4 : a0.toList = ([60, 62] : List UInt8)
   ·rw [if_pos c4] at H
    have c4b0 : (a0.toList == ([60, 62] : List UInt8)) = true := beq_iff_eq.mpr c4
    have c4b1 : (a0.toList != ([60, 62] : List UInt8)) = false := bne_eq_false_iff_eq.mpr c4
    clear c4
    have H' := Aside0.mk H
    clear H
    go_wp2
    go_meet
    case rel => exact ⟨_, ((a0.toList == ([60, 62] : List UInt8))), (rflS), H', ⟨by first | omega | exact Nat.le_refl _⟩, drA⟩
   ·rw [if_neg c4] at H
    have c4b0 : (a0.toList == ([60, 62] : List UInt8)) = false := beq_eq_false_iff_ne.mpr c4
    have c4b1 : (a0.toList != ([60, 62] : List UInt8)) = true := bne_iff_ne.mpr c4
    by_cases c5 : a0.toList = ([60] : List UInt8)
    ·rw [if_pos c5] at H
     have c5b0 : (a0.toList == ([60] : List UInt8)) = true := beq_iff_eq.mpr c5
     have c5b1 : (a0.toList != ([60] : List UInt8)) = false := bne_eq_false_iff_eq.mpr c5
     clear c5
     have H' := Aside0.mk H
     clear H
     go_wp2
     go_meet
     case rel => exact ⟨_, ((a0.toList == ([60] : List UInt8))), (rflS), H', ⟨by first | omega | exact Nat.le_refl _⟩, drA⟩
    ·rw [if_neg c5] at H
     have c5b0 : (a0.toList == ([60] : List UInt8)) = false := beq_eq_false_iff_ne.mpr c5
     have c5b1 : (a0.toList != ([60] : List UInt8)) = true := bne_iff_ne.mpr c5
     by_cases c6 : a0.toList = ([62] : List UInt8)
     ·rw [if_pos c6] at H
      have c6b0 : (a0.toList == ([62] : List UInt8)) = true := beq_iff_eq.mpr c6
      have c6b1 : (a0.toList != ([62] : List UInt8)) = false := bne_eq_false_iff_eq.mpr c6
      clear c6
      have H' := Aside0.mk H
      clear H
      go_wp2
      go_meet
      case rel => exact ⟨_, ((a0.toList == ([62] : List UInt8))), (rflS), H', ⟨by first | omega | exact Nat.le_refl _⟩, drA⟩
     ·rw [if_neg c6] at H
      have c6b0 : (a0.toList == ([62] : List UInt8)) = false := beq_eq_false_iff_ne.mpr c6
      have c6b1 : (a0.toList != ([62] : List UInt8)) = true := bne_iff_ne.mpr c6
      by_cases c7 : a0.toList = ([60, 61] : List UInt8)
      ·rw [if_pos c7] at H
       have c7b0 : (a0.toList == ([60, 61] : List UInt8)) = true := beq_iff_eq.mpr c7
       have c7b1 : (a0.toList != ([60, 61] : List UInt8)) = false := bne_eq_false_iff_eq.mpr c7
       clear c7
       have H' := Aside0.mk H
       clear H
       go_wp2
       go_meet
       case rel => exact ⟨_, ((a0.toList == ([60, 61] : List UInt8))), (rflS), H', ⟨by first | omega | exact Nat.le_refl _⟩, drA⟩
      ·rw [if_neg c7] at H
       have c7b0 : (a0.toList == ([60, 61] : List UInt8)) = false := beq_eq_false_iff_ne.mpr c7
       have c7b1 : (a0.toList != ([60, 61] : List UInt8)) = true := bne_iff_ne.mpr c7
       have H' := Aside0.mk H
       clear H
       go_wp2
       go_meet
       case rel => exact ⟨_, ((a0.toList == ([62, 61] : List UInt8))), (rflS), H', ⟨by first | omega | exact Nat.le_refl _⟩, drA⟩
 case rest =>
  clear HC2
  try clear p2
  try clear c3
  try clear c3b0
  try clear c3b1
  try clear c4
  try clear c4b0
  try clear c4b1
  try clear c5
  try clear c5b0
  try clear c5b1
  try clear c6
  try clear c6b0
  try clear c6b1
  try clear c7
  try clear c7b0
  try clear c7b1
  obtain ⟨kq, x4_1, rfl, HA, HJ1, ⟨mc1, rfl⟩⟩ := hcut
  cases kq with
  | zero => exact absurd HA.out (by simp [tree_line.j0])
  | succ kj1 =>
   have H := HA.out
   clear HA
   simp only [tree_line.j0] at H
   by_cases c8 : x4_1 = true
   ·subst c8
    have H1 : (some 0) = some r := by rw [if_pos rfl] at H; exact H
    clear H
    have H := H1
    clear H1
    obtain rfl := Option.some.inj H
    go_wp2
    go_ret
    exact ⟨rflS, drA⟩
   ·replace c8 := Bool.eq_false_iff.mpr c8
    subst c8
    have H1 : (if a0.toList = ([38] : List UInt8) then (some 1) else (if a0.toList = ([43] : List UInt8) then (tree_line.j1 kj1 a0 (a0.toList == ([43] : List UInt8))) else (tree_line.j1 kj1 a0 (a0.toList == ([45] : List UInt8))))) = some r := by rw [if_neg (show ¬ (false = true) by decide)] at H; exact H
    clear H
    have H := H1
    clear H1
    by_cases c9 : a0.toList = ([38] : List UInt8)
    ·rw [if_pos c9] at H
     have c9b0 : (a0.toList == ([38] : List UInt8)) = true := beq_iff_eq.mpr c9
     have c9b1 : (a0.toList != ([38] : List UInt8)) = false := bne_eq_false_iff_eq.mpr c9
     clear c9
     obtain rfl := Option.some.inj H
     go_wp2
     go_ret
     exact ⟨rflS, drA⟩
    ·rw [if_neg c9] at H
     have c9b0 : (a0.toList == ([38] : List UInt8)) = false := beq_eq_false_iff_ne.mpr c9
     have c9b1 : (a0.toList != ([38] : List UInt8)) = true := bne_iff_ne.mpr c9
     have HC10 := Aside0.mk H
     clear H
     go_upto_if 13 with (fail)
     go_cut [13] (fun v13 wc => ∃ (kq : Nat) (x13_9 : Bool), v13 = .bool x13_9 ∧ Aside0 (tree_line.j1 kq a0 x13_9 = some r) ∧ Aside0 (kq ≤ kj1) ∧ Drawn0 w wc)
     case first =>
      have H := HC10.out
      clear HC10
      by_cases c11 : a0.toList = ([43] : List UInt8)
      ·rw [if_pos c11] at H
       have c11b0 : (a0.toList == ([43] : List UInt8)) = true := beq_iff_eq.mpr c11
       have c11b1 : (a0.toList != ([43] : List UInt8)) = false := bne_eq_false_iff_eq.mpr c11
       clear c11
       (first | rw [c11b0] | (simp only [i64_w, i32_w]; rw [c11b0]) | skip)
       have H' := Aside0.mk H
       clear H
       go_wp2
       go_meet
       case rel => exact ⟨_, ((a0.toList == ([43] : List UInt8))), (rflS), H', ⟨by have := HJ1.out; first | omega | exact Nat.le_refl _⟩, drA⟩
      ·rw [if_neg c11] at H
       have c11b0 : (a0.toList == ([43] : List UInt8)) = false := beq_eq_false_iff_ne.mpr c11
       have c11b1 : (a0.toList != ([43] : List UInt8)) = true := bne_iff_ne.mpr c11
       (first | rw [c11b0] | (simp only [i64_w, i32_w]; rw [c11b0]) | skip)
       have H' := Aside0.mk H
       clear H
       go_wp2
       go_meet
       case rel => exact ⟨_, ((a0.toList == ([45] : List UInt8))), (rflS), H', ⟨by have := HJ1.out; first | omega | exact Nat.le_refl _⟩, drA⟩
     case rest =>
      clear HC10
      try clear c1
      try clear p2
      try clear c3
      try clear c3b0
      try clear c3b1
      try clear c4
      try clear c4b0
      try clear c4b1
      try clear c5
      try clear c5b0
      try clear c5b1
      try clear c6
      try clear c6b0
      try clear c6b1
      try clear c7
      try clear c7b0
      try clear c7b1
      try clear c8
      try clear c9
      try clear c9b0
      try clear c9b1
      try clear c11
      try clear c11b0
      try clear c11b1
      try clear p2
      obtain ⟨kq, x13_9, rfl, HA, HJ9, ⟨mc9, rfl⟩⟩ := hcut
      cases kq with
      | zero => exact absurd HA.out (by simp [tree_line.j1])
      | succ kj9 =>
       have H := HA.out
       clear HA
       simp only [tree_line.j1] at H
       by_cases c12 : x13_9 = true
       ·subst c12
        have H1 : (some 2) = some r := by rw [if_pos rfl] at H; exact H
        clear H
        have H := H1
        clear H1
        obtain rfl := Option.some.inj H
        go_wp2
        go_ret
        exact ⟨rflS, drA⟩
       ·replace c12 := Bool.eq_false_iff.mpr c12
        subst c12
        have H1 : (if a0.toList = ([42] : List UInt8) then (some 3) else (if a0.toList = ([47] : List UInt8) then (some 3) else (some (-1)))) = some r := by rw [if_neg (show ¬ (false = true) by decide)] at H; exact H
        clear H
        have H := H1
        clear H1
        by_cases c13 : a0.toList = ([42] : List UInt8)
        ·rw [if_pos c13] at H
         have c13b0 : (a0.toList == ([42] : List UInt8)) = true := beq_iff_eq.mpr c13
         have c13b1 : (a0.toList != ([42] : List UInt8)) = false := bne_eq_false_iff_eq.mpr c13
         clear c13
         obtain rfl := Option.some.inj H
         go_wp2
         go_ret
         exact ⟨rflS, drA⟩
        ·rw [if_neg c13] at H
         have c13b0 : (a0.toList == ([42] : List UInt8)) = false := beq_eq_false_iff_ne.mpr c13
         have c13b1 : (a0.toList != ([42] : List UInt8)) = true := bne_iff_ne.mpr c13
         by_cases c14 : a0.toList = ([47] : List UInt8)
         ·rw [if_pos c14] at H
          have c14b0 : (a0.toList == ([47] : List UInt8)) = true := beq_iff_eq.mpr c14
          have c14b1 : (a0.toList != ([47] : List UInt8)) = false := bne_eq_false_iff_eq.mpr c14
          clear c14
          obtain rfl := Option.some.inj H
          go_wp2
          go_ret
          exact ⟨rflS, drA⟩
         ·rw [if_neg c14] at H
          have c14b0 : (a0.toList == ([47] : List UInt8)) = false := beq_eq_false_iff_ne.mpr c14
          have c14b1 : (a0.toList != ([47] : List UInt8)) = true := bne_iff_ne.mpr c14
          obtain rfl := Option.some.inj H
          go_wp2
          go_ret
          exact ⟨rflS, drA⟩
def tree_name.f (a0 : ByteArray) : Option (Bool) := if a0.toList = ([] : List UInt8) then (some false) else (if (a0.size : Int) > 20 then (some false) else (if 0 < (a0.size : Int) then (if (bt a0 0) < 65 then (some false) else (if (bt a0 0) > 90 then (some false) else ((strings_Trim.f a0 (⟨#[65, 66, 67, 68, 69, 70, 71, 72, 73, 74, 75, 76, 77, 78, 79, 80, 81, 82, 83, 84, 85, 86, 87, 88, 89, 90, 48, 49, 50, 51, 52, 53, 54, 55, 56, 57, 46, 95]⟩ : ByteArray)).bind fun t217 => (some (t217.toList == ([] : List UInt8)))))) else (none)))
theorem tree_name.calls (a0 : ByteArray) (r : Bool) (w : World) (h : tree_name.f a0 = some r) :
  Calls Tryz.prog 78 #[.string a0] w fun e w' => e = .returned (.bool r) ∧ Below w.heap.size w w' := by
 have HB := Aside0.mk (Below.refl w.heap.size w)
 have H : (if a0.toList = ([] : List UInt8) then (some false) else (if (a0.size : Int) > 20 then (some false) else (if 0 < (a0.size : Int) then (if (bt a0 0) < 65 then (some false) else (if (bt a0 0) > 90 then (some false) else ((strings_Trim.f a0 (⟨#[65, 66, 67, 68, 69, 70, 71, 72, 73, 74, 75, 76, 77, 78, 79, 80, 81, 82, 83, 84, 85, 86, 87, 88, 89, 90, 48, 49, 50, 51, 52, 53, 54, 55, 56, 57, 46, 95]⟩ : ByteArray)).bind fun t217 => (some (t217.toList == ([] : List UInt8)))))) else (none)))) = some r := h
 clear h
 by_cases c2 : a0.toList = ([] : List UInt8)
 ·rw [if_pos c2] at H
  have c2b0 : (a0.toList == ([] : List UInt8)) = true := beq_iff_eq.mpr c2
  have c2b1 : (a0.toList != ([] : List UInt8)) = false := bne_eq_false_iff_eq.mpr c2
  clear c2
  obtain rfl := Option.some.inj H
  go_enter Tryz.func78, Tryz.ntmps78
  go_wp2
  go_ret
  exact ⟨rflE, hbA⟩
 ·rw [if_neg c2] at H
  have c2b0 : (a0.toList == ([] : List UInt8)) = false := beq_eq_false_iff_ne.mpr c2
  have c2b1 : (a0.toList != ([] : List UInt8)) = true := bne_iff_ne.mpr c2
  by_cases c3 : (a0.size : Int) > 20
  ·rw [if_pos c3] at H
   have c3b0 : decide (20 < (a0.size : Int)) = true := decide_eq_true c3
   have c3b1 : decide (20 < a0.size) = true := decide_eq_true (by omega)
   clear c3
   obtain rfl := Option.some.inj H
   go_enter Tryz.func78, Tryz.ntmps78
   go_wp2
   go_ret
   exact ⟨rflE, hbA⟩
  ·rw [if_neg c3] at H
   have c3b0 : decide (20 < (a0.size : Int)) = false := decide_eq_false c3
   have c3b1 : decide (20 < a0.size) = false := decide_eq_false (by omega)
   clear c3
   by_cases c4 : 0 < (a0.size : Int)
   ·rw [if_pos c4] at H
    have c4b0 : decide (0 < (a0.size : Int)) = true := decide_eq_true c4
    have c4b1 : decide (0 < a0.size) = true := decide_eq_true (by omega)
    clear c4
    by_cases c6 : (bt a0 0) < 65
    ·rw [if_pos c6] at H
     have c6b0 : decide ((bt a0 0) < 65) = true := decide_eq_true c6
     clear c6
     obtain rfl := Option.some.inj H
     have p5 : 0 ≤ (0 : Int) := (by omega)
     have q5 : 0 < a0.size := (by have : (0 : Int) < (a0.size : Int) := of_decide_eq_true kA; omega)
     have hx5 : ∀ h : 0 < a0.size, ((a0[0]'h).toNat : Int) = bt a0 0 := bt_at a0 0
     clear p5
     have qi5 : (0 < (a0.size : Int)) = True := eq_true (of_decide_eq_true kA)
     replace q5 := eq_true q5
     go_enter Tryz.func78, Tryz.ntmps78
     go_wp2
     go_ret
     exact ⟨rflE, hbA⟩
    ·rw [if_neg c6] at H
     have c6b0 : decide ((bt a0 0) < 65) = false := decide_eq_false c6
     clear c6
     by_cases c8 : (bt a0 0) > 90
     ·rw [if_pos c8] at H
      have c8b0 : decide (90 < (bt a0 0)) = true := decide_eq_true c8
      clear c8
      obtain rfl := Option.some.inj H
      have p5 : 0 ≤ (0 : Int) := (by omega)
      have q5 : 0 < a0.size := (by have : (0 : Int) < (a0.size : Int) := of_decide_eq_true kA; omega)
      have hx5 : ∀ h : 0 < a0.size, ((a0[0]'h).toNat : Int) = bt a0 0 := bt_at a0 0
      clear p5
      have qi5 : (0 < (a0.size : Int)) = True := eq_true (of_decide_eq_true kA)
      replace q5 := eq_true q5
      have p7 : 0 ≤ (0 : Int) := (by omega)
      have q7 : 0 < a0.size := (by have : (0 : Int) < (a0.size : Int) := of_decide_eq_true kA; omega)
      have hx7 : ∀ h : 0 < a0.size, ((a0[0]'h).toNat : Int) = bt a0 0 := bt_at a0 0
      clear p7
      have qi7 : (0 < (a0.size : Int)) = True := eq_true (of_decide_eq_true kA)
      replace q7 := eq_true q7
      go_enter Tryz.func78, Tryz.ntmps78
      go_wp2
      go_ret
      exact ⟨rflE, hbA⟩
     ·rw [if_neg c8] at H
      have c8b0 : decide (90 < (bt a0 0)) = false := decide_eq_false c8
      clear c8
      replace H := Option.bind_eq_some_iff.mp H
      obtain ⟨t217, A90, H⟩ := H
      replace H : (some (t217.toList == ([] : List UInt8))) = some r := H
      have A9 := Aside0.mk A90
      clear A90
      obtain rfl := Option.some.inj H
      have p5 : 0 ≤ (0 : Int) := (by omega)
      have q5 : 0 < a0.size := (by have : (0 : Int) < (a0.size : Int) := of_decide_eq_true kA; omega)
      have hx5 : ∀ h : 0 < a0.size, ((a0[0]'h).toNat : Int) = bt a0 0 := bt_at a0 0
      clear p5
      have qi5 : (0 < (a0.size : Int)) = True := eq_true (of_decide_eq_true kA)
      replace q5 := eq_true q5
      have p7 : 0 ≤ (0 : Int) := (by omega)
      have q7 : 0 < a0.size := (by have : (0 : Int) < (a0.size : Int) := of_decide_eq_true kA; omega)
      have hx7 : ∀ h : 0 < a0.size, ((a0[0]'h).toNat : Int) = bt a0 0 := bt_at a0 0
      clear p7
      have qi7 : (0 < (a0.size : Int)) = True := eq_true (of_decide_eq_true kA)
      replace q7 := eq_true q7
      go_enter Tryz.func78, Tryz.ntmps78
      go_wp2_with (first | ((with_reducible refine gate_callee (f := 97) rfl ?_); refine goesL_ (some 21) rfl rfl Tryz.func97 (by kernel_rfl) rfl #[.string a0, .string (⟨#[65, 66, 67, 68, 69, 70, 71, 72, 73, 74, 75, 76, 77, 78, 79, 80, 81, 82, 83, 84, 85, 86, 87, 88, 89, 90, 48, 49, 50, 51, 52, 53, 54, 55, 56, 57, 46, 95]⟩ : ByteArray)] rfl argA ?_; (with_reducible refine (strings_Trim.calls a0 (⟨#[65, 66, 67, 68, 69, 70, 71, 72, 73, 74, 75, 76, 77, 78, 79, 80, 81, 82, 83, 84, 85, 86, 87, 88, 89, 90, 48, 49, 50, 51, 52, 53, 54, 55, 56, 57, 46, 95]⟩ : ByteArray) t217 _ A9.out).mono ?_); rintro e w10 ⟨rfl, hb⟩; refine ⟨_, rfl, ?_⟩; have n0_ := Aside0.mk (below_step (hbA) hb); clear HB; have HB := n0_; clear n0_; (try clear hb); (try clear hb2); (try clear hk); (try clear hi)))
      go_ret
      exact ⟨rflE, hbA⟩
   ·rw [if_neg c4] at H
    exact absurd H (by simp)
def foolscapref04_sign.f (a0 : Bool) (a1 : Bool) : Option (Int) := if a0 = true then (some (-1)) else (if a1 = true then (some 1) else (some 0))
theorem foolscapref04_sign.calls (a0 : Bool) (a1 : Bool) (r : Int) (w : World) (h : foolscapref04_sign.f a0 a1 = some r) :
  Calls Tryz.prog 67 #[.bool a0, .bool a1] w fun e w' => e = .returned (.int .i64 r) ∧ Drawn0 w w' := by
 have H : (if a0 = true then (some (-1)) else (if a1 = true then (some 1) else (some 0))) = some r := h
 clear h
 by_cases c3 : a0 = true
 ·subst c3
  have H1 : (some (-1)) = some r := by rw [if_pos rfl] at H; exact H
  clear H
  have H := H1
  clear H1
  obtain rfl := Option.some.inj H
  go_enter Tryz.func67, Tryz.ntmps67
  go_wp2
  go_ret
  exact ⟨rflS, drA⟩
 ·replace c3 := Bool.eq_false_iff.mpr c3
  subst c3
  have H1 : (if a1 = true then (some 1) else (some 0)) = some r := by rw [if_neg (show ¬ (false = true) by decide)] at H; exact H
  clear H
  have H := H1
  clear H1
  by_cases c4 : a1 = true
  ·subst c4
   have H1 : (some 1) = some r := by rw [if_pos rfl] at H; exact H
   clear H
   have H := H1
   clear H1
   obtain rfl := Option.some.inj H
   go_enter Tryz.func67, Tryz.ntmps67
   go_wp2
   go_ret
   exact ⟨rflS, drA⟩
  ·replace c4 := Bool.eq_false_iff.mpr c4
   subst c4
   have H1 : (some 0) = some r := by rw [if_neg (show ¬ (false = true) by decide)] at H; exact H
   clear H
   have H := H1
   clear H1
   obtain rfl := Option.some.inj H
   go_enter Tryz.func67, Tryz.ntmps67
   go_wp2
   go_ret
   exact ⟨rflS, drA⟩
mutual
def foolscapref04_Bytes.l0 : Nat → ByteArray → ByteArray → Int → Option (Int)
 | 0, _, _, _ => none
 | k + 1, x0, x1, x5 => if x5 < (x0.size : Int) then (foolscapref04_Bytes.j1 k x0 x1 x5 (decide (x5 < (x1.size : Int)))) else (foolscapref04_Bytes.j1 k x0 x1 x5 false)
def foolscapref04_Bytes.j1 : Nat → ByteArray → ByteArray → Int → Bool → Option (Int)
 | 0, _, _, _, _ => none
 | k + 1, x0, x1, x5, x15 => if x15 = true then (if 0 ≤ x5 then (if x5 < (x0.size : Int) then (if x5 < (x1.size : Int) then (if (bt x0 x5) = (bt x1 x5) then (foolscapref04_Bytes.l0 k x0 x1 (wrap64 (x5 + 1))) else ((foolscapref04_sign.f (decide ((bt x0 x5) < (bt x1 x5))) (decide ((bt x0 x5) > (bt x1 x5)))).bind fun t218 => (some t218))) else (none)) else (none)) else (none)) else ((foolscapref04_sign.f (decide ((x0.size : Int) < (x1.size : Int))) (decide ((x0.size : Int) > (x1.size : Int)))).bind fun t219 => (some t219))
end
def foolscapref04_Bytes.f (k : Nat) (a0 : ByteArray) (a1 : ByteArray) : Option (Int) := foolscapref04_Bytes.l0 k a0 a1 0
theorem foolscapref04_Bytes.calls (k : Nat) (a0 : ByteArray) (a1 : ByteArray) (r : Int) (w : World) (h : foolscapref04_Bytes.f k a0 a1 = some r) :
  Calls Tryz.prog 47 #[.string a0, .string a1] w fun e w' => e = .returned (.int .i64 r) ∧ Drawn0 w w' := by
 have H : (foolscapref04_Bytes.l0 k a0 a1 0) = some r := h
 clear h
 have H' := Aside0.mk H
 clear H
 go_enter Tryz.func47, Tryz.ntmps47
 go_wp2
 repeat (go_quiet (fail); try go_wp2)
 go_loopg [5] k (fun kq v5 w' => ∃ (x5_1 : Int), v5 = .int .i64 x5_1 ∧ Aside0 (foolscapref04_Bytes.l0 kq a0 a1 x5_1 = some r) ∧ Aside0 (kq ≤ k) ∧ Drawn0 w w')
 case atStart => exact ⟨(0), (rflS), H', ⟨Nat.le_refl _⟩, drA⟩
 case round =>
  clear H'
  try clear p2
  obtain ⟨x5_1, rfl, HA, HK1, ⟨m1, rfl⟩⟩ := hrel
  cases gk with
  | zero => exact absurd HA.out (by simp [foolscapref04_Bytes.l0])
  | succ k1 =>
   have H := HA.out
   clear HA
   simp only [foolscapref04_Bytes.l0] at H
   have HC3 := Aside0.mk H
   clear H
   go_upto_region 2 with (fail)
   repeat (go_quiet (fail); go_upto_region 2 with (fail))
   go_cut [15] (fun v15 wc => ∃ (kq : Nat) (x15_2 : Bool), v15 = .bool x15_2 ∧ Aside0 (foolscapref04_Bytes.j1 kq a0 a1 x5_1 x15_2 = some r) ∧ Aside0 (kq ≤ k1) ∧ Drawn0 w wc)
   case first =>
    have H := HC3.out
    clear HC3
    by_cases c4 : x5_1 < (a0.size : Int)
    ·rw [if_pos c4] at H
     have c4b0 : decide (x5_1 < (a0.size : Int)) = true := decide_eq_true c4
     clear c4
     (first | rw [c4b0] | (simp only [i64_w, i32_w]; rw [c4b0]) | skip)
     have H' := Aside0.mk H
     clear H
     go_wp2
     repeat (go_quiet (fail); try go_wp2)
     go_meet
     case rel => exact ⟨_, (decide (x5_1 < (a1.size : Int))), (rflS), H', ⟨by have := HK1.out; first | omega | exact Nat.le_refl _⟩, drA⟩
    ·rw [if_neg c4] at H
     have c4b0 : decide (x5_1 < (a0.size : Int)) = false := decide_eq_false c4
     clear c4
     (first | rw [c4b0] | (simp only [i64_w, i32_w]; rw [c4b0]) | skip)
     have H' := Aside0.mk H
     clear H
     go_wp2
     repeat (go_quiet (fail); try go_wp2)
     go_meet
     case rel => exact ⟨_, (false), (rflS), H', ⟨by have := HK1.out; first | omega | exact Nat.le_refl _⟩, drA⟩
   case rest =>
    clear HC3
    try clear p2
    try clear c4
    try clear c4b0
    try clear p2
    obtain ⟨kq, x15_2, rfl, HA, HJ2, ⟨mc2, rfl⟩⟩ := hcut
    cases kq with
    | zero => exact absurd HA.out (by simp [foolscapref04_Bytes.j1])
    | succ kj2 =>
     have H := HA.out
     clear HA
     simp only [foolscapref04_Bytes.j1] at H
     by_cases c5 : x15_2 = true
     ·subst c5
      have H1 : (if 0 ≤ x5_1 then (if x5_1 < (a0.size : Int) then (if x5_1 < (a1.size : Int) then (if (bt a0 x5_1) = (bt a1 x5_1) then (foolscapref04_Bytes.l0 kj2 a0 a1 (wrap64 (x5_1 + 1))) else ((foolscapref04_sign.f (decide ((bt a0 x5_1) < (bt a1 x5_1))) (decide ((bt a0 x5_1) > (bt a1 x5_1)))).bind fun t218 => (some t218))) else (none)) else (none)) else (none)) = some r := by rw [if_pos rfl] at H; exact H
      clear H
      have H := H1
      clear H1
      by_cases c6 : 0 ≤ x5_1
      ·rw [if_pos c6] at H
       have c6b0 : decide (0 ≤ x5_1) = true := decide_eq_true c6
       clear c6
       by_cases c7 : x5_1 < (a0.size : Int)
       ·rw [if_pos c7] at H
        have c7b0 : decide (x5_1 < (a0.size : Int)) = true := decide_eq_true c7
        clear c7
        by_cases c9 : x5_1 < (a1.size : Int)
        ·rw [if_pos c9] at H
         have c9b0 : decide (x5_1 < (a1.size : Int)) = true := decide_eq_true c9
         clear c9
         by_cases c11 : (bt a0 x5_1) = (bt a1 x5_1)
         ·rw [if_pos c11] at H
          have c11b0 : ((bt a0 x5_1) == (bt a1 x5_1)) = true := beq_iff_eq.mpr c11
          have c11b1 : ((bt a0 x5_1) != (bt a1 x5_1)) = false := bne_eq_false_iff_eq.mpr c11
          clear c11
          have H' := Aside0.mk H
          clear H
          have p8 : 0 ≤ (x5_1 : Int) := of_decide_eq_true kA
          have q8 : x5_1 < (a0.size : Int) := of_decide_eq_true kA
          have hx8 := bt_at a0 x5_1
          replace p8 := eq_true p8
          replace q8 := eq_true q8
          have p10 : 0 ≤ (x5_1 : Int) := of_decide_eq_true kA
          have q10 : x5_1 < (a1.size : Int) := of_decide_eq_true kA
          have hx10 := bt_at a1 x5_1
          replace p10 := eq_true p10
          replace q10 := eq_true q10
          go_wp2
          repeat (go_quiet (fail); try go_wp2)
          go_roundg kj2
          case measure => have := HK1.out; have := HJ2.out; omega
          case rel => exact ⟨(wrap64 (x5_1 + 1)), (rflS), H', ⟨by have := HK1.out; have := HJ2.out; omega⟩, drA⟩
         ·rw [if_neg c11] at H
          have c11b0 : ((bt a0 x5_1) == (bt a1 x5_1)) = false := beq_eq_false_iff_ne.mpr c11
          have c11b1 : ((bt a0 x5_1) != (bt a1 x5_1)) = true := bne_iff_ne.mpr c11
          replace H := Option.bind_eq_some_iff.mp H
          obtain ⟨t218, A160, H⟩ := H
          replace H : (some t218) = some r := H
          have A16 := Aside0.mk A160
          clear A160
          obtain rfl := Option.some.inj H
          have p8 : 0 ≤ (x5_1 : Int) := of_decide_eq_true kA
          have q8 : x5_1 < (a0.size : Int) := of_decide_eq_true kA
          have hx8 := bt_at a0 x5_1
          replace p8 := eq_true p8
          replace q8 := eq_true q8
          have p10 : 0 ≤ (x5_1 : Int) := of_decide_eq_true kA
          have q10 : x5_1 < (a1.size : Int) := of_decide_eq_true kA
          have hx10 := bt_at a1 x5_1
          replace p10 := eq_true p10
          replace q10 := eq_true q10
          have p12 : 0 ≤ (x5_1 : Int) := of_decide_eq_true kA
          have q12 : x5_1 < (a0.size : Int) := of_decide_eq_true kA
          have hx12 := bt_at a0 x5_1
          replace p12 := eq_true p12
          replace q12 := eq_true q12
          have p13 : 0 ≤ (x5_1 : Int) := of_decide_eq_true kA
          have q13 : x5_1 < (a1.size : Int) := of_decide_eq_true kA
          have hx13 := bt_at a1 x5_1
          replace p13 := eq_true p13
          replace q13 := eq_true q13
          have p14 : 0 ≤ (x5_1 : Int) := of_decide_eq_true kA
          have q14 : x5_1 < (a0.size : Int) := of_decide_eq_true kA
          have hx14 := bt_at a0 x5_1
          replace p14 := eq_true p14
          replace q14 := eq_true q14
          have p15 : 0 ≤ (x5_1 : Int) := of_decide_eq_true kA
          have q15 : x5_1 < (a1.size : Int) := of_decide_eq_true kA
          have hx15 := bt_at a1 x5_1
          replace p15 := eq_true p15
          replace q15 := eq_true q15
          go_wp2_with (first | (go_at_call 67; (with_reducible refine (foolscapref04_sign.calls (decide ((bt a0 x5_1) < (bt a1 x5_1))) (decide ((bt a0 x5_1) > (bt a1 x5_1))) t218 _ A16.out).mono ?_); rintro e w' ⟨rfl, ⟨nd, rfl⟩⟩; (try first | exact ⟨rfl, _, World.drewN_drewN _ _ _⟩ | exact ⟨rfl, _, Eq.trans (World.drewN_drewN _ _ _) (congrArg (World.drewN _) (Nat.add_assoc _ _ _))⟩)))
          repeat (go_quiet (first | (go_at_call 67; (with_reducible refine (foolscapref04_sign.calls (decide ((bt a0 x5_1) < (bt a1 x5_1))) (decide ((bt a0 x5_1) > (bt a1 x5_1))) t218 _ A16.out).mono ?_); rintro e w' ⟨rfl, ⟨nd, rfl⟩⟩; (try first | exact ⟨rfl, _, World.drewN_drewN _ _ _⟩ | exact ⟨rfl, _, Eq.trans (World.drewN_drewN _ _ _) (congrArg (World.drewN _) (Nat.add_assoc _ _ _))⟩))); try go_wp2_with (first | (go_at_call 67; (with_reducible refine (foolscapref04_sign.calls (decide ((bt a0 x5_1) < (bt a1 x5_1))) (decide ((bt a0 x5_1) > (bt a1 x5_1))) t218 _ A16.out).mono ?_); rintro e w' ⟨rfl, ⟨nd, rfl⟩⟩; (try first | exact ⟨rfl, _, World.drewN_drewN _ _ _⟩ | exact ⟨rfl, _, Eq.trans (World.drewN_drewN _ _ _) (congrArg (World.drewN _) (Nat.add_assoc _ _ _))⟩))))
          go_ret
          exact ⟨rflS, drA⟩
        ·rw [if_neg c9] at H
         exact absurd H (by simp)
       ·rw [if_neg c7] at H
        exact absurd H (by simp)
      ·rw [if_neg c6] at H
       exact absurd H (by simp)
     ·replace c5 := Bool.eq_false_iff.mpr c5
      subst c5
      have H1 : ((foolscapref04_sign.f (decide ((a0.size : Int) < (a1.size : Int))) (decide ((a0.size : Int) > (a1.size : Int)))).bind fun t219 => (some t219)) = some r := by rw [if_neg (show ¬ (false = true) by decide)] at H; exact H
      clear H
      have H := H1
      clear H1
      replace H := Option.bind_eq_some_iff.mp H
      obtain ⟨t219, A170, H⟩ := H
      replace H : (some t219) = some r := H
      have A17 := Aside0.mk A170
      clear A170
      obtain rfl := Option.some.inj H
      go_wp2_with (first | (go_at_call 67; (try simp only [← Int.ofNat_lt, ← Int.ofNat_le]); (with_reducible refine (foolscapref04_sign.calls (decide ((a0.size : Int) < (a1.size : Int))) (decide ((a0.size : Int) > (a1.size : Int))) t219 _ A17.out).mono ?_); rintro e w' ⟨rfl, ⟨nd, rfl⟩⟩; (try first | exact ⟨rfl, _, World.drewN_drewN _ _ _⟩ | exact ⟨rfl, _, Eq.trans (World.drewN_drewN _ _ _) (congrArg (World.drewN _) (Nat.add_assoc _ _ _))⟩)))
      repeat (go_quiet (first | (go_at_call 67; (try simp only [← Int.ofNat_lt, ← Int.ofNat_le]); (with_reducible refine (foolscapref04_sign.calls (decide ((a0.size : Int) < (a1.size : Int))) (decide ((a0.size : Int) > (a1.size : Int))) t219 _ A17.out).mono ?_); rintro e w' ⟨rfl, ⟨nd, rfl⟩⟩; (try first | exact ⟨rfl, _, World.drewN_drewN _ _ _⟩ | exact ⟨rfl, _, Eq.trans (World.drewN_drewN _ _ _) (congrArg (World.drewN _) (Nat.add_assoc _ _ _))⟩))); try go_wp2_with (first | (go_at_call 67; (try simp only [← Int.ofNat_lt, ← Int.ofNat_le]); (with_reducible refine (foolscapref04_sign.calls (decide ((a0.size : Int) < (a1.size : Int))) (decide ((a0.size : Int) > (a1.size : Int))) t219 _ A17.out).mono ?_); rintro e w' ⟨rfl, ⟨nd, rfl⟩⟩; (try first | exact ⟨rfl, _, World.drewN_drewN _ _ _⟩ | exact ⟨rfl, _, Eq.trans (World.drewN_drewN _ _ _) (congrArg (World.drewN _) (Nat.add_assoc _ _ _))⟩))))
      go_ret
      exact ⟨rflS, drA⟩
end Go.Proofs.YtopdjokncbpghaaGreatDoor.Pr
end
