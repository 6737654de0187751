/-
  What the law CritKeys leans on, out of the texts that were printed and written for this seat: only what its proof mentions (gathered by a program of the author's).
-/
import Derived.Test.YtngdggmlfoogcaaGreatDoorSCritKeys18
import Derived.Test.YtngdggmlfoogcaaGreatDoorSCritKeys7
import Derived.Test.YtngdggmlfoogcaaGreatDoorSCritKeys12
import Derived.Below
import Derived.Laws.NewBlocks
import Derived.LoopTactic
import Derived.WalkKit
section
namespace Go.Proofs.YtngdggmlfoogcaaGreatDoor.Pr
set_option linter.unusedVariables false
set_option linter.unusedSimpArgs false
open Go.RowKit Go.Proofs.YtngdggmlfoogcaaGreatDoorW.PrintWords Go.Proofs.YtngdggmlfoogcaaGreatDoorW.PrintMore
def value_Show.f (a0_0 : Int) (a0_1 : Int) (a0_2 : ByteArray) (a0_3 : Bool) (a0_4 : Int) : Option (ByteArray × Int) := (value_Check.f a0_0 a0_1 a0_2 a0_3 a0_4).bind fun t => if t = 0 then ((value_Words.f a0_0 a0_1 a0_2 a0_3 a0_4).bind fun bt => if bt.2 = 0 then some (bt.1, 0) else if 1 ≤ bt.2 ∧ bt.2 ≤ 7 then some (nameZ bt.2, 0) else none) else some ((⟨#[]⟩ : ByteArray), 2)
theorem value_Show_no (a0_0 : Int) (a0_1 : Int) (a0_2 : ByteArray) (a0_3 : Bool) (a0_4 t : Int) (w : World) (h : value_Check.f a0_0 a0_1 a0_2 a0_3 a0_4 = some t) (ht : ¬ t = 0) :
    Calls Tryz.prog 34 #[.agg #[.int .i64 a0_0, .int .i64 a0_1, .string a0_2, .bool a0_3, .int .i64 a0_4]] w fun e w' => e = .returned (.tuple #[.string (⟨#[]⟩ : ByteArray), .int .i64 2]) ∧ Below w.heap.size w w' := by
  have HA := Aside0.mk h
  clear h
  have ht1 : (t != 0) = true := bne_iff_ne.mpr ht
  go_enter Tryz.func34, Tryz.ntmps34
  go_wp2_with (go_at_call 17; (with_reducible refine (value_Check.calls _ _ _ _ _ _ _ HA.out).mono ?_); rintro e w1 ⟨rfl, hb⟩)
  go_ret2
  exact ⟨rfl, boxed_below hb⟩
theorem value_Show_words (a0_0 : Int) (a0_1 : Int) (a0_2 : ByteArray) (a0_3 : Bool) (a0_4 : Int) (s : ByteArray) (w : World) (h : value_Check.f a0_0 a0_1 a0_2 a0_3 a0_4 = some 0) (h2 : value_Words.f a0_0 a0_1 a0_2 a0_3 a0_4 = some (s, 0)) (hL0 : Aside0 (LaidW w)) :
    Calls Tryz.prog 34 #[.agg #[.int .i64 a0_0, .int .i64 a0_1, .string a0_2, .bool a0_3, .int .i64 a0_4]] w fun e w' => e = .returned (.tuple #[.string s, .int .i64 0]) ∧ Below w.heap.size w w' := by
  have HA := Aside0.mk h
  have HW := Aside0.mk h2
  clear h h2
  go_enter Tryz.func34, Tryz.ntmps34
  go_wp2_with (first
    | (go_at_call 17; (with_reducible refine (value_Check.calls _ _ _ _ _ _ _ HA.out).mono ?_); rintro e w1 ⟨rfl, hb⟩; have c0 := boxed_cell hb 0 rfl; have c1 := boxed_cell hb 1 rfl; have c2 := boxed_cell hb 2 rfl; have c3 := boxed_cell hb 3 rfl; have c4 := boxed_cell hb 4 rfl; have HB := Aside0.mk hb; clear hb)
    | (go_at_call 59; (with_reducible refine (value_Words.calls _ _ _ _ _ _ _ _ HW.out (LaidAt hL0 (boxed_below HB.out))).mono ?_); rintro e w2 ⟨rfl, hb2⟩))
  go_ret2
  exact ⟨rfl, boxed_below (boxed_trans HB.out hb2)⟩
theorem names_index (w : World) (c : Int) (h1 : 1 ≤ c) (h7 : c ≤ 7) :
    (Instr.index 73 (.agg #[.string ⟨#[]⟩, .string ⟨#[35, 68, 73, 86, 47, 48, 33]⟩, .string ⟨#[35, 86, 65, 76, 85, 69, 33]⟩, .string ⟨#[35, 82, 69, 70, 33]⟩, .string ⟨#[35, 78, 65, 77, 69, 63]⟩, .string ⟨#[35, 78, 85, 77, 33]⟩, .string ⟨#[35, 78, 47, 65]⟩, .string ⟨#[35, 67, 89, 67, 76, 69, 33]⟩]) (.int .i64 c)).run Tryz.prog w = .ok (.string (nameZ c)) w := by
  have hc : c = 1 ∨ c = 2 ∨ c = 3 ∨ c = 4 ∨ c = 5 ∨ c = 6 ∨ c = 7 := by omega
  rcases hc with rfl | rfl | rfl | rfl | rfl | rfl | rfl
  all_goals
    simp [Instr.index, run_underlying Tryz.underlying73, asIntOf, go_sem, nameZ, nm1, nm2, nm3, nm4, nm5, nm6, nm7]
set_option maxHeartbeats 4000000 in
set_option maxRecDepth 100000 in
theorem value_Show_name (a0_0 : Int) (a0_1 : Int) (a0_2 : ByteArray) (a0_3 : Bool) (a0_4 : Int) (s : ByteArray) (c : Int) (w : World) (hc1 : 1 ≤ c) (hc7 : c ≤ 7) (h : value_Check.f a0_0 a0_1 a0_2 a0_3 a0_4 = some 0) (h2 : value_Words.f a0_0 a0_1 a0_2 a0_3 a0_4 = some (s, c)) (hL0 : Aside0 (LaidW w)) :
    Calls Tryz.prog 34 #[.agg #[.int .i64 a0_0, .int .i64 a0_1, .string a0_2, .bool a0_3, .int .i64 a0_4]] w fun e w' => e = .returned (.tuple #[.string (nameZ c), .int .i64 0]) ∧ Below w.heap.size w w' := by
  have HA := Aside0.mk h
  have HW := Aside0.mk h2
  have hne : (c != 0) = true := bne_iff_ne.mpr (by omega)
  clear h h2
  go_enter Tryz.func34, Tryz.ntmps34
  go_wp2_with (first
    | (go_at_call 17; (with_reducible refine (value_Check.calls _ _ _ _ _ _ _ HA.out).mono ?_); rintro e w1 ⟨rfl, hb⟩; have c0 := boxed_cell hb 0 rfl; have c1 := boxed_cell hb 1 rfl; have c2 := boxed_cell hb 2 rfl; have c3 := boxed_cell hb 3 rfl; have c4 := boxed_cell hb 4 rfl; have HB := Aside0.mk hb; clear hb)
    | (go_at_call 59; (with_reducible refine (value_Words.calls _ _ _ _ _ _ _ _ HW.out (LaidAt hL0 (boxed_below HB.out))).mono ?_); rintro e w2 ⟨rfl, hb2⟩)
    | (go_at_call 42; (with_reducible refine (value_names.calls _).mono ?_); rintro e w3 ⟨rfl, hb3⟩; have hix := names_index w3 c hc1 hc7))
  go_ret2
  exact ⟨rfl, boxed_below (boxed_trans (boxed_trans HB.out hb2) hb3)⟩
theorem value_Show.calls (a0_0 : Int) (a0_1 : Int) (a0_2 : ByteArray) (a0_3 : Bool) (a0_4 : Int) (r1 : ByteArray) (r2 : Int) (w : World) (h : value_Show.f a0_0 a0_1 a0_2 a0_3 a0_4 = some (r1, r2)) (hL0 : Aside0 (LaidW w)) :
    Calls Tryz.prog 34 #[.agg #[.int .i64 a0_0, .int .i64 a0_1, .string a0_2, .bool a0_3, .int .i64 a0_4]] w fun e w' => e = .returned (.tuple #[.string r1, .int .i64 r2]) ∧ Below w.heap.size w w' := by
  unfold value_Show.f at h
  obtain ⟨t, ht, h⟩ := Option.bind_eq_some_iff.mp h
  by_cases c : t = 0
  · rw [if_pos c] at h
    subst c
    obtain ⟨⟨s, c⟩, hw, h⟩ := Option.bind_eq_some_iff.mp h
    by_cases c0 : c = 0
    · subst c0
      rw [if_pos rfl] at h
      obtain ⟨rfl, rfl⟩ := Prod.mk.inj (Option.some.inj h)
      exact value_Show_words _ _ _ _ _ _ w ht hw hL0
    · rw [if_neg c0] at h
      by_cases c1 : 1 ≤ c ∧ c ≤ 7
      · rw [if_pos c1] at h
        obtain ⟨rfl, rfl⟩ := Prod.mk.inj (Option.some.inj h)
        exact value_Show_name _ _ _ _ _ s c w c1.1 c1.2 ht hw hL0
      · rw [if_neg c1] at h; cases h
  · rw [if_neg c] at h
    obtain ⟨rfl, rfl⟩ := Prod.mk.inj (Option.some.inj h)
    exact value_Show_no _ _ _ _ _ t w ht c
end Go.Proofs.YtngdggmlfoogcaaGreatDoor.Pr
end
