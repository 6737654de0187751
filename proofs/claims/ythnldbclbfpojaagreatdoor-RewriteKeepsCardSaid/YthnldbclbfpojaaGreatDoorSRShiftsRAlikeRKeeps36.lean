/-
  What the law RShiftsRAlikeRKeeps leans on, out of the texts that were printed and written for this seat: only what its proof mentions (gathered by a program of the author's).
-/
import Derived.Test.YthnldbclbfpojaaGreatDoorSRShiftsRAlikeRKeeps11
import Derived.Test.YthnldbclbfpojaaGreatDoorSRShiftsRAlikeRKeeps14
import Derived.Test.YthnldbclbfpojaaGreatDoorSRShiftsRAlikeRKeeps10
import Derived.Test.YthnldbclbfpojaaGreatDoorSRShiftsRAlikeRKeeps29
import Derived.Test.YthnldbclbfpojaaGreatDoorSRShiftsRAlikeRKeeps25
set_option maxHeartbeats 8000000
set_option maxRecDepth 100000
set_option linter.unusedVariables false
set_option linter.unusedSimpArgs false
section
namespace Go.Proofs.YthnldbclbfpojaaGreatDoor.Pr
open Go.RowKit Go.Proofs.YthnldbclbfpojaaGreatDoorW.PrintWords Go.Proofs.YthnldbclbfpojaaGreatDoorW.PrintLast Go.Proofs.YthnldbclbfpojaaGreatDoorW.PrintMore
def insB (k : Int) : Bool := k == 1 || k == 3
def rowsB (k : Int) : Bool := k == 1 || k == 2
def mostI (k : Int) : Int := if rowsB k = true then 1048576 else 16384
theorem inserts_B (a b c : Int) : move_inserts.f a b c = some (insB a) := by
 unfold move_inserts.f insB
 by_cases h : a = 1 <;> simp [h]
theorem rows_B (a b c : Int) : move_rows.f a b c = some (rowsB a) := by
 unfold move_rows.f rowsB
 by_cases h : a = 1 <;> simp [h]
theorem most_I (a b c : Int) : move_most.f a b c = some (mostI a) := by
 unfold move_most.f mostI
 rw [rows_B]
 cases rowsB a <;> rfl
def edB (a b c : Int) : Bool := decide (1 ≤ a) && (decide (a ≤ 4) && (decide (1 ≤ b) && (decide (b ≤ mostI a) && (decide (1 ≤ c) && decide (c ≤ mostI a - b + 1)))))
theorem mostI_bd (a : Int) : mostI a = 1048576 ∨ mostI a = 16384 := by
 unfold mostI
 split
 ·exact Or.inl rfl
 ·exact Or.inr rfl
theorem moveCheck_B (a b c : Int) : move_Check.f a b c = some (if edB a b c = true then 0 else 2) := by
 have hm := mostI_bd a
 unfold move_Check.f edB
 rw [most_I]
 generalize mostI a = m at hm ⊢
 by_cases h1 : a < 1
 ·rw [if_pos h1, decide_eq_false (show ¬1 ≤ a by omega)]; rfl
 rw [if_neg h1, decide_eq_true (show 1 ≤ a by omega)]
 by_cases h2 : a > 4
 ·rw [if_pos h2, decide_eq_false (show ¬a ≤ 4 by omega)]; rfl
 rw [if_neg h2, decide_eq_true (show a ≤ 4 by omega)]
 by_cases h3 : b < 1
 ·rw [if_pos h3, decide_eq_false (show ¬1 ≤ b by omega)]; rfl
 rw [if_neg h3, decide_eq_true (show 1 ≤ b by omega)]
 simp only [Option.bind_some]
 by_cases h4 : b > m
 ·rw [if_pos h4, decide_eq_false (show ¬b ≤ m by omega)]; rfl
 rw [if_neg h4, decide_eq_true (show b ≤ m by omega)]
 by_cases h5 : c < 1
 ·rw [if_pos h5, decide_eq_false (show ¬1 ≤ c by omega)]; rfl
 rw [if_neg h5, decide_eq_true (show 1 ≤ c by omega)]
 have hw : wrap64 (wrap64 (m - b) + 1) = m - b + 1 := by
  have e1 : wrap64 (m - b) = m - b := by unfold wrap64; omega
  rw [e1]
  unfold wrap64; omega
 rw [hw]
 by_cases h6 : c > m - b + 1
 ·rw [if_pos h6, decide_eq_false (show ¬c ≤ m - b + 1 by omega)]; rfl
 ·rw [if_neg h6, decide_eq_true (show c ≤ m - b + 1 by omega)]; rfl
def stepV (a b c n : Int) : Int := if n < b then n else if insB a = true then IntKind.i64.wrap (n + c) else IntKind.i64.wrap (n - c)
def stepF (a b c n : Int) : Int := if n < b then 0 else if insB a = true then (if IntKind.i64.wrap (n + c) > mostI a then 2 else 0) else (if IntKind.i64.wrap (n - c) < b then 1 else 0)
theorem step_calls (a b c n : Int) (g j : Nat) (cs : Array Value) (t : TypeId) (w : World) (HG : w.heap[g]? = some (.cells cs t (0, 0))) (HJ : cs[j]? = some (.int .i64 n)) :
  Calls Tryz.prog 44 #[.agg (edA a b c), .pointer (some ⟨g, j, none⟩)] w fun e w' => e = .returned (.int .i64 (stepF a b c n)) ∧ Below w.heap.size (w.setCell ⟨g, j, none⟩ (.int .i64 (stepV a b c n))) w' := by
 unfold stepF stepV
 by_cases h : n < b
 ·rw [if_pos h, if_pos h]
  exact step_stays a b c n g j cs t w ⟨HG⟩ ⟨HJ⟩ h
 ·rw [if_neg h, if_neg h]
  cases hi : insB a with
  | true =>
   rw [if_pos rfl, if_pos rfl]
   exact step_ins a b c n _ _ g j cs t w ⟨HG⟩ ⟨HJ⟩ h ⟨by rw [inserts_B, hi]⟩ ⟨most_I a b c⟩ rfl
  | false =>
   rw [if_neg (show ¬(false = true) by simp), if_neg (show ¬(false = true) by simp)]
   exact step_del a b c n _ g j cs t w ⟨HG⟩ ⟨HJ⟩ h ⟨by rw [inserts_B, hi]⟩ rfl
def spotS (a b c r k : Int) : (Int × Int) × Int × Int :=
  if placeB r k = true ∧ edB a b c = true then
    (if rowsB a = true then (if stepF a b c r = 0 then ((stepV a b c r, k), 0, 0) else ((0, 0), stepF a b c r, 0))
     else (if stepF a b c k = 0 then ((r, stepV a b c k), 0, 0) else ((0, 0), stepF a b c k, 0)))
  else ((0, 0), 0, 2)
theorem placeOf_same (r k : Int) : ∃ p q s t, place_Of.f r k r k = some (p, q, s, t, if placeB r k = true then 0 else 2) := by
 unfold place_Of.f
 rw [place_is_B]
 cases placeB r k
 ·exact ⟨_, _, _, _, rfl⟩
 ·exact ⟨_, _, _, _, rfl⟩
abbrev atA (r k : Int) : Array Value := #[.int .i64 r, .int .i64 k]
theorem spot_no (a b c r k : Int) (w : World) (h : ¬(placeB r k = true ∧ edB a b c = true)) :
    Calls Tryz.prog 22 #[.agg (edA a b c), .agg (atA r k)] w fun e w' => e = .returned (.tuple #[.agg (atA 0 0), .int .i64 0, .int .i64 2]) ∧ Below w.heap.size w w' := by
  obtain ⟨p, q, s, t, ho⟩ := placeOf_same r k
  have hc := moveCheck_B a b c
  have main : ∀ x y : Int, Aside0 (place_Of.f r k r k = some (p, q, s, t, x)) → Aside0 (move_Check.f a b c = some y) → (x = 2 ∨ (x = 0 ∧ y = 2)) → Calls Tryz.prog 22 #[.agg (edA a b c), .agg (atA r k)] w fun e w' => e = .returned (.tuple #[.agg (atA 0 0), .int .i64 0, .int .i64 2]) ∧ Below w.heap.size w w' := by
    clear ho hc h
    intro x y HO HC hxy
    rcases hxy with rfl | ⟨rfl, rfl⟩
    all_goals
      go_enter Tryz.func22, Tryz.ntmps22
      go_wp2_with (first
        | (go_at_call 42; (with_reducible refine (place_Of.calls _ _ _ _ _ _ _ _ _ _ HO.out).mono ?_); rintro e w1 ⟨rfl, hb⟩; have HB1 := Aside0.mk (below_step (bel3 w _ _ _) hb); have B2 := Aside0.mk (blk_below (newBlk3a w _ _ _) hb); have B4 := Aside0.mk (blk_below (newBlk3c w _ _ _) hb); have hc := fun (o : Obj) (i : Nat) => blk_cell (blk_alloc B2.out o) i; clear hb)
        | (go_at_call 37; (with_reducible refine (move_Check.calls _ _ _ _ _ HC.out).mono ?_); rintro e w2 ⟨rfl, hb⟩; have HB2 := Aside0.mk (below_step (below_alloc HB1.out _) hb); have C4 := Aside0.mk (blk_below (blk_alloc B4.out _) hb); clear hb)
        | ((with_reducible refine gate_store (t := 28) (p := 4) (v := .tmp 24) rfl ?_); refine wpRowSt rfl 28 (.tmp 4) (.tmp 24) rfl (w.heap.size + 2) (atA 0 0) rfl rfl 28 _ (by first | exact C4.out | exact blk_alloc B4.out _) (by kernel_rfl) rfl rfl ?_))
      first
        | (refine bodyPost_ret (results_ctt rfl _ _ (w.heap.size + 2) 28 (atA 0 0) (0, 0) _ rfl (setRow_heap _ _ _ _ _ _ C4.out) Tryz.underlying28 rfl (by kernel_rfl)) rfl ?_
           exact ⟨rfl, rowBelow HB2.out (by omega) _⟩)
        | (refine bodyPost_ret (results_ctt rfl _ _ (w.heap.size + 2) 28 (atA 0 0) (0, 0) _ rfl (setRow_heap _ _ _ _ _ _ (blk_alloc B4.out _)) Tryz.underlying28 rfl (by kernel_rfl)) rfl ?_
           exact ⟨rfl, rowBelow (below_alloc HB1.out _) (by omega) _⟩)
  refine main _ _ ⟨ho⟩ ⟨hc⟩ ?_
  by_cases h1 : placeB r k = true
  · right
    exact ⟨if_pos h1, if_neg (fun h2 => h ⟨h1, h2⟩)⟩
  · left
    exact if_neg h1
theorem spot_row (a b c r k p q s t : Int) (w : World) (HO : Aside0 (place_Of.f r k r k = some (p, q, s, t, 0))) (HC : Aside0 (move_Check.f a b c = some 0)) (HR : Aside0 (move_rows.f a b c = some true)) (hx : stepF a b c r = 0) :
  Calls Tryz.prog 22 #[.agg (edA a b c), .agg (atA r k)] w fun e w' => e = .returned (.tuple #[.agg (atA (stepV a b c r) k), .int .i64 0, .int .i64 0]) ∧ Below w.heap.size w w' := by
 have HF := Aside0.mk hx
 have hne : w.heap.size ≠ w.heap.size + 1 := by omega
 have hne2 : w.heap.size + 2 ≠ w.heap.size + 1 := by omega
 have HS := Aside0.mk fun (W : World) (h : W.heap[w.heap.size + 1]? = some (.cells (atA r k) 28 (0, 0))) => step_calls a b c r (w.heap.size + 1) 0 (atA r k) 28 W h rfl
 rw [hx] at HS
 go_enter Tryz.func22, Tryz.ntmps22
 go_wp2_with (first
  | (go_at_call 42; (with_reducible refine (place_Of.calls _ _ _ _ _ _ _ _ _ _ HO.out).mono ?_); rintro e w1 ⟨rfl, hb⟩; have HB1 := Aside0.mk (below_step (bel3 w _ _ _) hb); have B2 := Aside0.mk (blk_below (newBlk3a w _ _ _) hb); have B3 := Aside0.mk (blk_below (newBlk3b w _ _ _) hb); have B4 := Aside0.mk (blk_below (newBlk3c w _ _ _) hb); have hc := fun (o : Obj) (i : Nat) => blk_cell (blk_alloc B2.out o) i; clear hb)
  | (go_at_call 37; (with_reducible refine (move_Check.calls _ _ _ _ _ HC.out).mono ?_); rintro e w2 ⟨rfl, hb⟩; have HB2 := Aside0.mk (below_step (below_alloc HB1.out _) hb); have C2 := Aside0.mk (blk_below (blk_alloc B2.out _) hb); have C3 := Aside0.mk (blk_below (blk_alloc B3.out _) hb); have C4 := Aside0.mk (blk_below (blk_alloc B4.out _) hb); clear hc hb; have hc := fun (i : Nat) => blk_cell C2.out i)
  | (go_at_call 43; (with_reducible refine (move_rows.calls _ _ _ _ _ HR.out).mono ?_); rintro e w3 ⟨rfl, hb⟩; have HB3 := Aside0.mk (below_step HB2.out hb); have D2 := Aside0.mk (blk_below C2.out hb); have D3 := Aside0.mk (blk_below C3.out hb); have D4 := Aside0.mk (blk_below C4.out hb); clear hc hb; have hc := fun (i : Nat) => blk_cell D2.out i)
  | (go_at_call 44; (with_reducible refine (HS.out _ D3.out).mono ?_); rintro e w4 ⟨rfl, hb⟩; have hbp := put_below hb; have HB4 := Aside0.mk (below_step (below_set HB3.out (Nat.le_succ _)) hbp); have E3 := Aside0.mk (blk_below (blk_put D3.out 0 _ (cs' := (atA (stepV a b c r) k)) rfl) hbp); have E4 := Aside0.mk (blk_below (blk_far (p := ⟨w.heap.size + 1, 0, none⟩) D4.out hne2 _) hbp); clear hc hb hbp; have hc := fun (i : Nat) => blk_cell E3.out i)
  | ((with_reducible refine gate_store (t := 28) (p := 4) (v := .tmp 36) rfl ?_); refine wpRowSt rfl 28 (.tmp 4) (.tmp 36) rfl (w.heap.size + 2) (atA (stepV a b c r) k) rfl rfl 28 _ E4.out (by kernel_rfl) rfl rfl ?_))
 refine bodyPost_ret (results_ctt rfl _ _ (w.heap.size + 2) 28 (atA (stepV a b c r) k) (0, 0) _ rfl (setRow_heap _ _ _ _ _ _ E4.out) Tryz.underlying28 rfl (by kernel_rfl)) rfl ?_
 exact ⟨rfl, rowBelow HB4.out (by omega) _⟩
theorem spot_row_off (a b c r k p q s t x : Int) (w : World) (HO : Aside0 (place_Of.f r k r k = some (p, q, s, t, 0))) (HC : Aside0 (move_Check.f a b c = some 0)) (HR : Aside0 (move_rows.f a b c = some true)) (HX : Aside0 (stepF a b c r = x)) (hx : ¬stepF a b c r = 0) :
  Calls Tryz.prog 22 #[.agg (edA a b c), .agg (atA r k)] w fun e w' => e = .returned (.tuple #[.agg (atA 0 0), .int .i64 x, .int .i64 0]) ∧ Below w.heap.size w w' := by
 have hx0 : ¬x = 0 := by rw [← HX.out]; exact hx
 clear hx
 have HF := Aside0.mk HX.out
 have hne : w.heap.size ≠ w.heap.size + 1 := by omega
 have hne2 : w.heap.size + 2 ≠ w.heap.size + 1 := by omega
 have HS := Aside0.mk fun (W : World) (h : W.heap[w.heap.size + 1]? = some (.cells (atA r k) 28 (0, 0))) => step_calls a b c r (w.heap.size + 1) 0 (atA r k) 28 W h rfl
 rw [HX.out] at HS
 go_enter Tryz.func22, Tryz.ntmps22
 go_wp2_with (first
  | (go_at_call 42; (with_reducible refine (place_Of.calls _ _ _ _ _ _ _ _ _ _ HO.out).mono ?_); rintro e w1 ⟨rfl, hb⟩; have HB1 := Aside0.mk (below_step (bel3 w _ _ _) hb); have B2 := Aside0.mk (blk_below (newBlk3a w _ _ _) hb); have B3 := Aside0.mk (blk_below (newBlk3b w _ _ _) hb); have B4 := Aside0.mk (blk_below (newBlk3c w _ _ _) hb); have hc := fun (o : Obj) (i : Nat) => blk_cell (blk_alloc B2.out o) i; clear hb)
  | (go_at_call 37; (with_reducible refine (move_Check.calls _ _ _ _ _ HC.out).mono ?_); rintro e w2 ⟨rfl, hb⟩; have HB2 := Aside0.mk (below_step (below_alloc HB1.out _) hb); have C2 := Aside0.mk (blk_below (blk_alloc B2.out _) hb); have C3 := Aside0.mk (blk_below (blk_alloc B3.out _) hb); have C4 := Aside0.mk (blk_below (blk_alloc B4.out _) hb); clear hc hb; have hc := fun (i : Nat) => blk_cell C2.out i)
  | (go_at_call 43; (with_reducible refine (move_rows.calls _ _ _ _ _ HR.out).mono ?_); rintro e w3 ⟨rfl, hb⟩; have HB3 := Aside0.mk (below_step HB2.out hb); have D2 := Aside0.mk (blk_below C2.out hb); have D3 := Aside0.mk (blk_below C3.out hb); have D4 := Aside0.mk (blk_below C4.out hb); clear hc hb; have hc := fun (i : Nat) => blk_cell D2.out i)
  | (go_at_call 44; (with_reducible refine (HS.out _ D3.out).mono ?_); rintro e w4 ⟨rfl, hb⟩; have hbp := put_below hb; have HB4 := Aside0.mk (below_step (below_set HB3.out (Nat.le_succ _)) hbp); have E3 := Aside0.mk (blk_below (blk_put D3.out 0 _ (cs' := (atA (stepV a b c r) k)) rfl) hbp); have E4 := Aside0.mk (blk_below (blk_far (p := ⟨w.heap.size + 1, 0, none⟩) D4.out hne2 _) hbp); clear hc hb hbp; have hc := fun (i : Nat) => blk_cell E3.out i)
  | ((with_reducible refine gate_store (t := 28) (p := 4) (v := .tmp 34) rfl ?_); refine wpRowSt rfl 28 (.tmp 4) (.tmp 34) rfl (w.heap.size + 2) (atA 0 0) rfl rfl 28 _ E4.out (by kernel_rfl) rfl rfl ?_))
 refine bodyPost_ret (results_ctt rfl _ _ (w.heap.size + 2) 28 (atA 0 0) (0, 0) _ rfl (setRow_heap _ _ _ _ _ _ E4.out) Tryz.underlying28 rfl (by kernel_rfl)) rfl ?_
 exact ⟨rfl, rowBelow HB4.out (by omega) _⟩
theorem spot_col (a b c r k p q s t : Int) (w : World) (HO : Aside0 (place_Of.f r k r k = some (p, q, s, t, 0))) (HC : Aside0 (move_Check.f a b c = some 0)) (HR : Aside0 (move_rows.f a b c = some false)) (hx : stepF a b c k = 0) :
  Calls Tryz.prog 22 #[.agg (edA a b c), .agg (atA r k)] w fun e w' => e = .returned (.tuple #[.agg (atA r (stepV a b c k)), .int .i64 0, .int .i64 0]) ∧ Below w.heap.size w w' := by
 have HF := Aside0.mk hx
 have hne : w.heap.size ≠ w.heap.size + 1 := by omega
 have hne2 : w.heap.size + 2 ≠ w.heap.size + 1 := by omega
 have HS := Aside0.mk fun (W : World) (h : W.heap[w.heap.size + 1]? = some (.cells (atA r k) 28 (0, 0))) => step_calls a b c k (w.heap.size + 1) 1 (atA r k) 28 W h rfl
 rw [hx] at HS
 go_enter Tryz.func22, Tryz.ntmps22
 go_wp2_with (first
  | (go_at_call 42; (with_reducible refine (place_Of.calls _ _ _ _ _ _ _ _ _ _ HO.out).mono ?_); rintro e w1 ⟨rfl, hb⟩; have HB1 := Aside0.mk (below_step (bel3 w _ _ _) hb); have B2 := Aside0.mk (blk_below (newBlk3a w _ _ _) hb); have B3 := Aside0.mk (blk_below (newBlk3b w _ _ _) hb); have B4 := Aside0.mk (blk_below (newBlk3c w _ _ _) hb); have hc := fun (o : Obj) (i : Nat) => blk_cell (blk_alloc B2.out o) i; clear hb)
  | (go_at_call 37; (with_reducible refine (move_Check.calls _ _ _ _ _ HC.out).mono ?_); rintro e w2 ⟨rfl, hb⟩; have HB2 := Aside0.mk (below_step (below_alloc HB1.out _) hb); have C2 := Aside0.mk (blk_below (blk_alloc B2.out _) hb); have C3 := Aside0.mk (blk_below (blk_alloc B3.out _) hb); have C4 := Aside0.mk (blk_below (blk_alloc B4.out _) hb); clear hc hb; have hc := fun (i : Nat) => blk_cell C2.out i)
  | (go_at_call 43; (with_reducible refine (move_rows.calls _ _ _ _ _ HR.out).mono ?_); rintro e w3 ⟨rfl, hb⟩; have HB3 := Aside0.mk (below_step HB2.out hb); have D2 := Aside0.mk (blk_below C2.out hb); have D3 := Aside0.mk (blk_below C3.out hb); have D4 := Aside0.mk (blk_below C4.out hb); clear hc hb; have hc := fun (i : Nat) => blk_cell D2.out i)
  | (go_at_call 44; (with_reducible refine (HS.out _ D3.out).mono ?_); rintro e w4 ⟨rfl, hb⟩; have hbp := put_below hb; have HB4 := Aside0.mk (below_step (below_set HB3.out (Nat.le_succ _)) hbp); have E3 := Aside0.mk (blk_below (blk_put D3.out 1 _ (cs' := (atA r (stepV a b c k))) rfl) hbp); have E4 := Aside0.mk (blk_below (blk_far (p := ⟨w.heap.size + 1, 1, none⟩) D4.out hne2 _) hbp); clear hc hb hbp; have hc := fun (i : Nat) => blk_cell E3.out i)
  | ((with_reducible refine gate_store (t := 28) (p := 4) (v := .tmp 36) rfl ?_); refine wpRowSt rfl 28 (.tmp 4) (.tmp 36) rfl (w.heap.size + 2) (atA r (stepV a b c k)) rfl rfl 28 _ E4.out (by kernel_rfl) rfl rfl ?_))
 refine bodyPost_ret (results_ctt rfl _ _ (w.heap.size + 2) 28 (atA r (stepV a b c k)) (0, 0) _ rfl (setRow_heap _ _ _ _ _ _ E4.out) Tryz.underlying28 rfl (by kernel_rfl)) rfl ?_
 exact ⟨rfl, rowBelow HB4.out (by omega) _⟩
theorem spot_col_off (a b c r k p q s t x : Int) (w : World) (HO : Aside0 (place_Of.f r k r k = some (p, q, s, t, 0))) (HC : Aside0 (move_Check.f a b c = some 0)) (HR : Aside0 (move_rows.f a b c = some false)) (HX : Aside0 (stepF a b c k = x)) (hx : ¬stepF a b c k = 0) :
  Calls Tryz.prog 22 #[.agg (edA a b c), .agg (atA r k)] w fun e w' => e = .returned (.tuple #[.agg (atA 0 0), .int .i64 x, .int .i64 0]) ∧ Below w.heap.size w w' := by
 have hx0 : ¬x = 0 := by rw [← HX.out]; exact hx
 clear hx
 have HF := Aside0.mk HX.out
 have hne : w.heap.size ≠ w.heap.size + 1 := by omega
 have hne2 : w.heap.size + 2 ≠ w.heap.size + 1 := by omega
 have HS := Aside0.mk fun (W : World) (h : W.heap[w.heap.size + 1]? = some (.cells (atA r k) 28 (0, 0))) => step_calls a b c k (w.heap.size + 1) 1 (atA r k) 28 W h rfl
 rw [HX.out] at HS
 go_enter Tryz.func22, Tryz.ntmps22
 go_wp2_with (first
  | (go_at_call 42; (with_reducible refine (place_Of.calls _ _ _ _ _ _ _ _ _ _ HO.out).mono ?_); rintro e w1 ⟨rfl, hb⟩; have HB1 := Aside0.mk (below_step (bel3 w _ _ _) hb); have B2 := Aside0.mk (blk_below (newBlk3a w _ _ _) hb); have B3 := Aside0.mk (blk_below (newBlk3b w _ _ _) hb); have B4 := Aside0.mk (blk_below (newBlk3c w _ _ _) hb); have hc := fun (o : Obj) (i : Nat) => blk_cell (blk_alloc B2.out o) i; clear hb)
  | (go_at_call 37; (with_reducible refine (move_Check.calls _ _ _ _ _ HC.out).mono ?_); rintro e w2 ⟨rfl, hb⟩; have HB2 := Aside0.mk (below_step (below_alloc HB1.out _) hb); have C2 := Aside0.mk (blk_below (blk_alloc B2.out _) hb); have C3 := Aside0.mk (blk_below (blk_alloc B3.out _) hb); have C4 := Aside0.mk (blk_below (blk_alloc B4.out _) hb); clear hc hb; have hc := fun (i : Nat) => blk_cell C2.out i)
  | (go_at_call 43; (with_reducible refine (move_rows.calls _ _ _ _ _ HR.out).mono ?_); rintro e w3 ⟨rfl, hb⟩; have HB3 := Aside0.mk (below_step HB2.out hb); have D2 := Aside0.mk (blk_below C2.out hb); have D3 := Aside0.mk (blk_below C3.out hb); have D4 := Aside0.mk (blk_below C4.out hb); clear hc hb; have hc := fun (i : Nat) => blk_cell D2.out i)
  | (go_at_call 44; (with_reducible refine (HS.out _ D3.out).mono ?_); rintro e w4 ⟨rfl, hb⟩; have hbp := put_below hb; have HB4 := Aside0.mk (below_step (below_set HB3.out (Nat.le_succ _)) hbp); have E3 := Aside0.mk (blk_below (blk_put D3.out 1 _ (cs' := (atA r (stepV a b c k))) rfl) hbp); have E4 := Aside0.mk (blk_below (blk_far (p := ⟨w.heap.size + 1, 1, none⟩) D4.out hne2 _) hbp); clear hc hb hbp; have hc := fun (i : Nat) => blk_cell E3.out i)
  | ((with_reducible refine gate_store (t := 28) (p := 4) (v := .tmp 34) rfl ?_); refine wpRowSt rfl 28 (.tmp 4) (.tmp 34) rfl (w.heap.size + 2) (atA 0 0) rfl rfl 28 _ E4.out (by kernel_rfl) rfl rfl ?_))
 refine bodyPost_ret (results_ctt rfl _ _ (w.heap.size + 2) 28 (atA 0 0) (0, 0) _ rfl (setRow_heap _ _ _ _ _ _ E4.out) Tryz.underlying28 rfl (by kernel_rfl)) rfl ?_
 exact ⟨rfl, rowBelow HB4.out (by omega) _⟩
theorem spot_calls (a b c r k : Int) (w : World) :
  Calls Tryz.prog 22 #[.agg (edA a b c), .agg (atA r k)] w fun e w' => e = .returned (.tuple #[.agg (atA (spotS a b c r k).1.1 (spotS a b c r k).1.2), .int .i64 (spotS a b c r k).2.1, .int .i64 (spotS a b c r k).2.2]) ∧ Below w.heap.size w w' := by
 unfold spotS
 by_cases h : placeB r k = true ∧ edB a b c = true
 ·rw [if_pos h]
  obtain ⟨p, q, s, t, ho⟩ := placeOf_same r k
  rw [if_pos h.1] at ho
  have hc := moveCheck_B a b c
  rw [if_pos h.2] at hc
  cases hr : rowsB a with
  | true =>
   rw [if_pos rfl]
   by_cases hf : stepF a b c r = 0
   ·rw [if_pos hf]
    exact spot_row a b c r k p q s t w ⟨ho⟩ ⟨hc⟩ ⟨by rw [rows_B, hr]⟩ hf
   ·rw [if_neg hf]
    exact spot_row_off a b c r k p q s t _ w ⟨ho⟩ ⟨hc⟩ ⟨by rw [rows_B, hr]⟩ ⟨rfl⟩ hf
  | false =>
   rw [if_neg (by simp)]
   by_cases hf : stepF a b c k = 0
   ·rw [if_pos hf]
    exact spot_col a b c r k p q s t w ⟨ho⟩ ⟨hc⟩ ⟨by rw [rows_B, hr]⟩ hf
   ·rw [if_neg hf]
    exact spot_col_off a b c r k p q s t _ w ⟨ho⟩ ⟨hc⟩ ⟨by rw [rows_B, hr]⟩ ⟨rfl⟩ hf
 ·rw [if_neg h]
  exact spot_no a b c r k w h
end Go.Proofs.YthnldbclbfpojaaGreatDoor.Pr
end
