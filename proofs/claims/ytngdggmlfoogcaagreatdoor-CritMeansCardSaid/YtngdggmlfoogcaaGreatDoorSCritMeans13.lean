/-
  What the law CritMeans leans on, out of the texts that were printed and written for this seat: only what its proof mentions (gathered by a program of the author's).
-/
import Derived.Test.YtngdggmlfoogcaaGreatDoorSCritMeans9
import Derived.Below
import Derived.Deep.Draws
import Derived.Laws.NewBlocks
import Derived.LoopTactic
import Derived.WalkKit
section
namespace Go.Proofs.YtngdggmlfoogcaaGreatDoor.Pr
set_option linter.unusedVariables false
set_option linter.unusedSimpArgs false
open Go.RowKit Go.Proofs.YtngdggmlfoogcaaGreatDoorW.PrintWords Go.Proofs.YtngdggmlfoogcaaGreatDoorW.PrintLast Go.Proofs.YtngdggmlfoogcaaGreatDoorW.PrintMore
def sg0 : ByteArray := ⟨#[60, 62]⟩
def sg1 : ByteArray := ⟨#[60, 61]⟩
def sg2 : ByteArray := ⟨#[62, 61]⟩
def sg3 : ByteArray := ⟨#[61]⟩
def sg4 : ByteArray := ⟨#[60]⟩
def sg5 : ByteArray := ⟨#[62]⟩
def sgI : Nat → ByteArray
  | 0 => sg0
  | 1 => sg1
  | 2 => sg2
  | 3 => sg3
  | 4 => sg4
  | _ => sg5
theorem signs_index (w : World) (i : Nat) (hi : i < 6) :
    (Instr.index 68 (.agg #[.string ⟨#[60, 62]⟩, .string ⟨#[60, 61]⟩, .string ⟨#[62, 61]⟩, .string ⟨#[61]⟩, .string ⟨#[60]⟩, .string ⟨#[62]⟩]) (.int .i64 i)).run Tryz.prog w = .ok (.string (sgI i)) w := by
  have hc : i = 0 ∨ i = 1 ∨ i = 2 ∨ i = 3 ∨ i = 4 ∨ i = 5 := by omega
  rcases hc with rfl | rfl | rfl | rfl | rfl | rfl
  all_goals
    simp [Instr.index, run_underlying Tryz.underlying68, asIntOf, go_sem, sgI, sg0, sg1, sg2, sg3, sg4, sg5]
def signFrom (a0 : ByteArray) : Nat → Nat → Option ByteArray
  | 0, _ => some (⟨#[]⟩ : ByteArray)
  | n + 1, i => (strings_HasPrefix.f a0 (sgI i)).bind fun t => if t = true then some (sgI i) else signFrom a0 n (i + 1)
def crit_sign.f (a0 : ByteArray) : Option ByteArray := signFrom a0 6 0
set_option maxHeartbeats 4000000 in
theorem crit_sign.calls (a0 : ByteArray) (r : ByteArray) (w : World) (h : crit_sign.f a0 = some r) :
    Calls Tryz.prog 18 #[.string a0] w fun e w' => e = .returned (.string r) ∧ Below w.heap.size w w' := by
  have H := Aside0.mk h
  clear h
  go_enter Tryz.func18, Tryz.ntmps18
  go_wp2
  go_loopw [6] (fun v wr => ∃ i : Nat, i ≤ 6 ∧ v = .int .i64 i ∧ Aside0 (signFrom a0 (6 - i) i = some r) ∧ Aside0 (Below w.heap.size w wr)) (fun v _ => 6 - (intOf v).toNat)
  case atStart => exact ⟨0, by omega, rfl, H, ⟨Below.refl _ _⟩⟩
  case round =>
    obtain ⟨i, hi, rfl, HS, HB⟩ := hrel
    by_cases hlt : i < 6
    · have hix := signs_index
      have hS := HS.out
      rw [show 6 - i = (5 - i) + 1 by omega] at hS
      obtain ⟨t, ht, hS⟩ := Option.bind_eq_some_iff.mp (show (strings_HasPrefix.f a0 (sgI i)).bind (fun t => if t = true then some (sgI i) else signFrom a0 (5 - i) (i + 1)) = some r from hS)
      have HT := Aside0.mk ht
      have HS2 := Aside0.mk hS
      clear HS hS ht H
      have hxi := fun w => signs_index w i hlt
      cases t
      · go_wp2_with (go_at_call 39; (with_reducible refine (strings_HasPrefix.calls _ _ _ _ HT.out).mono ?_); rintro e w1 ⟨rfl, nd, rfl⟩)
        refine ⟨⟨i + 1, by omega, by go_num, ⟨?_⟩, ⟨pw_below_drewN HB.out _⟩⟩, by simp [intOf]; omega⟩
        have hS := HS2.out
        rw [if_neg (by first | exact Bool.false_ne_true | exact not_false)] at hS
        rw [show 6 - (i + 1) = 5 - i by omega]
        exact hS
      · go_wp2_with (go_at_call 39; (with_reducible refine (strings_HasPrefix.calls _ _ _ _ HT.out).mono ?_); rintro e w1 ⟨rfl, nd, rfl⟩)
        have hS := HS2.out
        rw [if_pos (by first | trivial | rfl)] at hS
        obtain rfl := Option.some.inj hS
        go_ret
        exact ⟨rfl, pw_below_drewN HB.out _⟩
    · have hS := HS.out
      obtain rfl : i = 6 := by omega
      obtain rfl := Option.some.inj (show some (⟨#[]⟩ : ByteArray) = some r from hS)
      go_wp2
      go_ret
      exact ⟨rfl, HB.out⟩
end Go.Proofs.YtngdggmlfoogcaaGreatDoor.Pr
end
