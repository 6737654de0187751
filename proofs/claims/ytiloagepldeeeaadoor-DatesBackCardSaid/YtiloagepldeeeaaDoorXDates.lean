/-
  dates.long: how many days a month has, as a plain function, and that the Go code computes it.
-/
import Derived.Test.YtiloagepldeeeaaDoorPr3
import Derived.Test.YtiloagepldeeeaaDoorPDateMath
import Derived.WalkKit
import Derived.Below
import Derived.Laws.NewBlocks
namespace Go.Proofs.YtiloagepldeeeaaDoor.Pr
set_option linter.unusedVariables false
set_option linter.unusedSimpArgs false
open Go.RowKit Go.Proofs.YtiloagepldeeeaaDoorW.PrintWords Go.Proofs.YtiloagepldeeeaaDoorW.PrintMore
theorem dates_Leap_eq (y : Int) : dates_Leap.f y = some (leapB y) := by
  unfold dates_Leap.f leapB
  by_cases c1 : Int.tmod y 4 = 0
  · rw [if_pos c1]
    by_cases c2 : Int.tmod y 100 = 0
    · rw [if_pos c2]
      by_cases c3 : Int.tmod y 400 = 0 <;> simp [c1, c2, c3]
    · rw [if_neg c2]; simp [c1, c2]
  · rw [if_neg c1]; simp [c1]
/-- how many days a month has. -/
def dates_long.f (a0 : Int) (a1 : Int) : Option (Int) := if 1 ≤ a1 ∧ a1 ≤ 12 then some (longZ a0 a1) else none
theorem dates_long_feb (y : Int) (b : Bool) (w : World) (hb : leapB y = b) :
    Calls Tryd.prog 33 #[.int .i64 y, .int .i64 2] w fun e w' => e = .returned (.int .i64 (if b then 29 else 28)) ∧ Below w.heap.size w w' := by
  have hl := dates_Leap_eq y
  rw [hb] at hl
  have HL := Aside0.mk hl
  clear hl hb
  cases b
  all_goals
    go_enter Tryd.func33, Tryd.ntmps33
    go_wp2_with (go_at_call 14; (with_reducible refine (dates_Leap.calls _ _ _ HL.out).mono ?_); rintro e w1 ⟨rfl, nd, rfl⟩)
    go_ret
    exact ⟨rfl, by first | exact pw_below_drewN (below_set ((Below.refl _ _).alloc (Nat.le_refl _) _) (Nat.le_refl _)) _ | exact pw_below_drewN ((Below.refl _ _).alloc (Nat.le_refl _) _) _⟩
set_option maxHeartbeats 4000000 in
theorem dates_long_other (y m r : Int) (w : World) (hm : ¬ m = 2) (h1 : 1 ≤ m) (h2 : m ≤ 12) (hr : r = if m = 4 ∨ m = 6 ∨ m = 9 ∨ m = 11 then 30 else 31) :
    Calls Tryd.prog 33 #[.int .i64 y, .int .i64 m] w fun e w' => e = .returned (.int .i64 r) ∧ Below w.heap.size w w' := by
  have hc : m = 1 ∨ m = 3 ∨ m = 4 ∨ m = 5 ∨ m = 6 ∨ m = 7 ∨ m = 8 ∨ m = 9 ∨ m = 10 ∨ m = 11 ∨ m = 12 := by omega
  rcases hc with rfl | rfl | rfl | rfl | rfl | rfl | rfl | rfl | rfl | rfl | rfl
  all_goals
    simp at hr
    subst hr
    clear hm h1 h2
    go_enter Tryd.func33, Tryd.ntmps33
    go_wp2
    go_ret
    exact ⟨rfl, by first | exact below_set ((Below.refl _ _).alloc (Nat.le_refl _) _) (Nat.le_refl _) | exact (Below.refl _ _).alloc (Nat.le_refl _) _⟩
theorem dates_long.calls (a0 : Int) (a1 : Int) (r : Int) (w : World) (h : dates_long.f a0 a1 = some r) :
    Calls Tryd.prog 33 #[.int .i64 a0, .int .i64 a1] w fun e w' => e = .returned (.int .i64 r) ∧ Below w.heap.size w w' := by
  unfold dates_long.f at h
  split at h
  · rename_i c
    obtain rfl := Option.some.inj h
    unfold longZ
    by_cases h2 : a1 = 2
    · subst h2
      rw [if_pos rfl]
      exact dates_long_feb a0 _ w rfl
    · rw [if_neg h2]
      exact dates_long_other a0 a1 _ w h2 c.1 c.2 rfl
  · exact absurd h (by simp)
/-- the parts of a day's number, by years that begin with March. -/
structure PartsOf (s a b c n2 d e f n4 g : Int) : Prop where mk ::
  (h0 : -693900 ≤ s) (h1 : s ≤ 4000000) (ha : (s + 693901 - 1) / 146097 = a) (hb : (s + 693901 - 1) % 146097 = b) (hc : min (b / 36524) 3 = c) (hn2 : b - c * 36524 = n2) (hd : n2 / 1461 = d) (he : n2 % 1461 = e) (hf : min (e / 365) 3 = f) (hn4 : e - f * 365 = n4) (hg : (5 * n4 + 2) / 153 = g)
theorem PartsOf.bounds {s a b c n2 d e f n4 g : Int} (h : PartsOf s a b c n2 d e f n4 g) :
    0 ≤ a ∧ a ≤ 40 ∧ 0 ≤ b ∧ b ≤ 146096 ∧ 0 ≤ c ∧ c ≤ 3 ∧ 0 ≤ n2 ∧ n2 ≤ 36524 ∧ 0 ≤ d ∧ d ≤ 24 ∧ 0 ≤ e ∧ e ≤ 1460 ∧ 0 ≤ f ∧ f ≤ 3 ∧ 0 ≤ n4 ∧ n4 ≤ 365 ∧ 0 ≤ g ∧ g ≤ 11 := by
  obtain ⟨h0, h1, ha, hb, hc, hn2, hd, he, hf, hn4, hg⟩ := h
  omega
theorem PartsOf.ex (s : Int) (h0 : -693900 ≤ s) (h1 : s ≤ 4000000) : ∃ a b c n2 d e f n4 g, PartsOf s a b c n2 d e f n4 g :=
  ⟨_, _, _, _, _, _, _, _, _, h0, h1, rfl, rfl, rfl, rfl, rfl, rfl, rfl, rfl, rfl⟩
theorem PartsOf.eq {s a b c n2 d e f n4 g : Int} (h : PartsOf s a b c n2 d e f n4 g) :
    partsZ s = if g + 3 > 12 then (400 * a + 100 * c + 4 * d + f + 1, g + 3 - 12, n4 - (153 * g + 2) / 5 + 1) else (400 * a + 100 * c + 4 * d + f, g + 3, n4 - (153 * g + 2) / 5 + 1) := by
  obtain ⟨h0, h1, rfl, rfl, rfl, rfl, rfl, rfl, rfl, rfl, rfl⟩ := h
  rfl
def dates_parts.f (a0 : Int) : Option (Int × Int × Int) := if -693900 ≤ a0 ∧ a0 ≤ 4000000 then some (partsZ a0) else none
set_option maxHeartbeats 1000000 in
theorem dates_parts_walk {s a b c n2 d e f n4 g : Int} (w : World) (h : PartsOf s a b c n2 d e f n4 g) :
    Calls Tryd.prog 32 #[.int .i64 s] w fun e_ w' => e_ = .returned (if g + 3 > 12 then .agg #[.int .i64 (400 * a + 100 * c + 4 * d + f + 1), .int .i64 (g + 3 - 12), .int .i64 (n4 - (153 * g + 2) / 5 + 1)] else .agg #[.int .i64 (400 * a + 100 * c + 4 * d + f), .int .i64 (g + 3), .int .i64 (n4 - (153 * g + 2) / 5 + 1)]) ∧ Below w.heap.size w w' := by
  obtain ⟨a0, a1, b0, b1, c0, c1, n20, n21, d0, d1, e0, e1, f0, f1, n40, n41, g0, g1⟩ := h.bounds
  obtain ⟨h0, h1, ha, hb, hc, hn2, hd, he, hf, hn4, hg⟩ := h
  have hc' : (if 3 < b / 36524 then 3 else b / 36524) = c := by omega
  have hf' : (if 3 < e / 365 then 3 else e / 365) = f := by omega
  by_cases hgt : 12 < g + 3
  · rw [if_pos hgt]
    go_enter Tryd.func32, Tryd.ntmps32
    go_wp2
    exact bodyPost_ret (v := .agg #[.int .i64 (400 * a + 100 * c + 4 * d + f + 1), .int .i64 (g + 3 - 12), .int .i64 (n4 - (153 * g + 2) / 5 + 1)]) (by simp [results, Tryd.results32, go_sem, ha, hb, hc, hn2, hd, he, hf, hn4, hg]) rfl ⟨rfl, (by repeat (first | exact Below.refl _ _ | refine below_set ?_ (by simp) | refine below_alloc ?_ _))⟩
  · rw [if_neg hgt]
    go_enter Tryd.func32, Tryd.ntmps32
    go_wp2
    exact bodyPost_ret (v := .agg #[.int .i64 (400 * a + 100 * c + 4 * d + f), .int .i64 (g + 3), .int .i64 (n4 - (153 * g + 2) / 5 + 1)]) (by simp [results, Tryd.results32, go_sem, ha, hb, hc, hn2, hd, he, hf, hn4, hg]) rfl ⟨rfl, (by repeat (first | exact Below.refl _ _ | refine below_set ?_ (by simp) | refine below_alloc ?_ _))⟩
theorem dates_parts.calls (a0 : Int) (r1 : Int) (r2 : Int) (r3 : Int) (w : World) (h : dates_parts.f a0 = some (r1, r2, r3)) :
    Calls Tryd.prog 32 #[.int .i64 a0] w fun e w' => e = .returned (.agg #[.int .i64 r1, .int .i64 r2, .int .i64 r3]) ∧ Below w.heap.size w w' := by
  unfold dates_parts.f at h
  split at h
  · rename_i c
    obtain ⟨a, b, c, n2, d, e, f, n4, g, hp⟩ := PartsOf.ex a0 c.1 c.2
    have hw := dates_parts_walk w hp
    rw [hp.eq] at h
    split at h
    · rename_i hc
      simp only [Option.some.injEq, Prod.mk.injEq] at h
      obtain ⟨rfl, rfl, rfl⟩ := h
      rw [if_pos hc] at hw
      exact hw
    · rename_i hc
      simp only [Option.some.injEq, Prod.mk.injEq] at h
      obtain ⟨rfl, rfl, rfl⟩ := h
      rw [if_neg hc] at hw
      exact hw
  · exact absurd h (by simp)
end Go.Proofs.YtiloagepldeeeaaDoor.Pr
