/-
  What the law RewriteMoves leans on, out of the texts that were printed and written for this seat: only what its proof mentions (gathered by a program of the author's).
-/
import Derived.Test.YthnldbclbfpojaaGreatDoorSRewriteMoves11
import Derived.Test.YthnldbclbfpojaaGreatDoorSRewriteMoves33
import Derived.Test.YthnldbclbfpojaaGreatDoorSRewriteMoves10
import Derived.Test.YthnldbclbfpojaaGreatDoorSRewriteMoves25
import Derived.Test.YthnldbclbfpojaaGreatDoorSRewriteMoves26
import Derived.Test.YthnldbclbfpojaaGreatDoorSRewriteMoves31
import Derived.Test.YthnldbclbfpojaaGreatDoorSRewriteMoves23
set_option maxHeartbeats 8000000
set_option maxRecDepth 100000
set_option linter.unusedVariables false
set_option linter.unusedSimpArgs false
section
namespace Go.Proofs.YthnldbclbfpojaaGreatDoor.Pr
open Go.RowKit Go.Proofs.YthnldbclbfpojaaGreatDoorW.PrintWords Go.Proofs.YthnldbclbfpojaaGreatDoorW.PrintLast Go.Proofs.YthnldbclbfpojaaGreatDoorW.PrintMore
def insB (k : Int) : Bool := k == 1 || k == 3
def rowsB (k : Int) : Bool := k == 1 || k == 2
def mostI (k : Int) : Int := if rowsB k = true then 1048576 else 16384
theorem inserts_B (a b c : Int) : move_inserts.f a b c = some (insB a) := by
 unfold move_inserts.f insB
 by_cases h : a = 1 <;> simp [h]
theorem rows_B (a b c : Int) : move_rows.f a b c = some (rowsB a) := by
 unfold move_rows.f rowsB
 by_cases h : a = 1 <;> simp [h]
theorem most_I (a b c : Int) : move_most.f a b c = some (mostI a) := by
 unfold move_most.f mostI
 rw [rows_B]
 cases rowsB a <;> rfl
def edB (a b c : Int) : Bool := decide (1 ≤ a) && (decide (a ≤ 4) && (decide (1 ≤ b) && (decide (b ≤ mostI a) && (decide (1 ≤ c) && decide (c ≤ mostI a - b + 1)))))
theorem mostI_bd (a : Int) : mostI a = 1048576 ∨ mostI a = 16384 := by
 unfold mostI
 split
 ·exact Or.inl rfl
 ·exact Or.inr rfl
theorem moveCheck_B (a b c : Int) : move_Check.f a b c = some (if edB a b c = true then 0 else 2) := by
 have hm := mostI_bd a
 unfold move_Check.f edB
 rw [most_I]
 generalize mostI a = m at hm ⊢
 by_cases h1 : a < 1
 ·rw [if_pos h1, decide_eq_false (show ¬1 ≤ a by omega)]; rfl
 rw [if_neg h1, decide_eq_true (show 1 ≤ a by omega)]
 by_cases h2 : a > 4
 ·rw [if_pos h2, decide_eq_false (show ¬a ≤ 4 by omega)]; rfl
 rw [if_neg h2, decide_eq_true (show a ≤ 4 by omega)]
 by_cases h3 : b < 1
 ·rw [if_pos h3, decide_eq_false (show ¬1 ≤ b by omega)]; rfl
 rw [if_neg h3, decide_eq_true (show 1 ≤ b by omega)]
 simp only [Option.bind_some]
 by_cases h4 : b > m
 ·rw [if_pos h4, decide_eq_false (show ¬b ≤ m by omega)]; rfl
 rw [if_neg h4, decide_eq_true (show b ≤ m by omega)]
 by_cases h5 : c < 1
 ·rw [if_pos h5, decide_eq_false (show ¬1 ≤ c by omega)]; rfl
 rw [if_neg h5, decide_eq_true (show 1 ≤ c by omega)]
 have hw : wrap64 (wrap64 (m - b) + 1) = m - b + 1 := by
  have e1 : wrap64 (m - b) = m - b := by unfold wrap64; omega
  rw [e1]
  unfold wrap64; omega
 rw [hw]
 by_cases h6 : c > m - b + 1
 ·rw [if_pos h6, decide_eq_false (show ¬c ≤ m - b + 1 by omega)]; rfl
 ·rw [if_neg h6, decide_eq_true (show c ≤ m - b + 1 by omega)]; rfl
def stepV (a b c n : Int) : Int := if n < b then n else if insB a = true then IntKind.i64.wrap (n + c) else IntKind.i64.wrap (n - c)
def stepF (a b c n : Int) : Int := if n < b then 0 else if insB a = true then (if IntKind.i64.wrap (n + c) > mostI a then 2 else 0) else (if IntKind.i64.wrap (n - c) < b then 1 else 0)
theorem step_calls (a b c n : Int) (g j : Nat) (cs : Array Value) (t : TypeId) (w : World) (HG : w.heap[g]? = some (.cells cs t (0, 0))) (HJ : cs[j]? = some (.int .i64 n)) :
  Calls Tryz.prog 44 #[.agg (edA a b c), .pointer (some ⟨g, j, none⟩)] w fun e w' => e = .returned (.int .i64 (stepF a b c n)) ∧ Below w.heap.size (w.setCell ⟨g, j, none⟩ (.int .i64 (stepV a b c n))) w' := by
 unfold stepF stepV
 by_cases h : n < b
 ·rw [if_pos h, if_pos h]
  exact step_stays a b c n g j cs t w ⟨HG⟩ ⟨HJ⟩ h
 ·rw [if_neg h, if_neg h]
  cases hi : insB a with
  | true =>
   rw [if_pos rfl, if_pos rfl]
   exact step_ins a b c n _ _ g j cs t w ⟨HG⟩ ⟨HJ⟩ h ⟨by rw [inserts_B, hi]⟩ ⟨most_I a b c⟩ rfl
  | false =>
   rw [if_neg (show ¬(false = true) by simp), if_neg (show ¬(false = true) by simp)]
   exact step_del a b c n _ g j cs t w ⟨HG⟩ ⟨HJ⟩ h ⟨by rw [inserts_B, hi]⟩ rfl
def spotS (a b c r k : Int) : (Int × Int) × Int × Int :=
  if placeB r k = true ∧ edB a b c = true then
    (if rowsB a = true then (if stepF a b c r = 0 then ((stepV a b c r, k), 0, 0) else ((0, 0), stepF a b c r, 0))
     else (if stepF a b c k = 0 then ((r, stepV a b c k), 0, 0) else ((0, 0), stepF a b c k, 0)))
  else ((0, 0), 0, 2)
theorem placeOf_same (r k : Int) : ∃ p q s t, place_Of.f r k r k = some (p, q, s, t, if placeB r k = true then 0 else 2) := by
 unfold place_Of.f
 rw [place_is_B]
 cases placeB r k
 ·exact ⟨_, _, _, _, rfl⟩
 ·exact ⟨_, _, _, _, rfl⟩
abbrev atA (r k : Int) : Array Value := #[.int .i64 r, .int .i64 k]
theorem spot_no (a b c r k : Int) (w : World) (h : ¬(placeB r k = true ∧ edB a b c = true)) :
    Calls Tryz.prog 22 #[.agg (edA a b c), .agg (atA r k)] w fun e w' => e = .returned (.tuple #[.agg (atA 0 0), .int .i64 0, .int .i64 2]) ∧ Below w.heap.size w w' := by
  obtain ⟨p, q, s, t, ho⟩ := placeOf_same r k
  have hc := moveCheck_B a b c
  have main : ∀ x y : Int, Aside0 (place_Of.f r k r k = some (p, q, s, t, x)) → Aside0 (move_Check.f a b c = some y) → (x = 2 ∨ (x = 0 ∧ y = 2)) → Calls Tryz.prog 22 #[.agg (edA a b c), .agg (atA r k)] w fun e w' => e = .returned (.tuple #[.agg (atA 0 0), .int .i64 0, .int .i64 2]) ∧ Below w.heap.size w w' := by
    clear ho hc h
    intro x y HO HC hxy
    rcases hxy with rfl | ⟨rfl, rfl⟩
    all_goals
      go_enter Tryz.func22, Tryz.ntmps22
      go_wp2_with (first
        | (go_at_call 42; (with_reducible refine (place_Of.calls _ _ _ _ _ _ _ _ _ _ HO.out).mono ?_); rintro e w1 ⟨rfl, hb⟩; have HB1 := Aside0.mk (below_step (bel3 w _ _ _) hb); have B2 := Aside0.mk (blk_below (newBlk3a w _ _ _) hb); have B4 := Aside0.mk (blk_below (newBlk3c w _ _ _) hb); have hc := fun (o : Obj) (i : Nat) => blk_cell (blk_alloc B2.out o) i; clear hb)
        | (go_at_call 37; (with_reducible refine (move_Check.calls _ _ _ _ _ HC.out).mono ?_); rintro e w2 ⟨rfl, hb⟩; have HB2 := Aside0.mk (below_step (below_alloc HB1.out _) hb); have C4 := Aside0.mk (blk_below (blk_alloc B4.out _) hb); clear hb)
        | ((with_reducible refine gate_store (t := 28) (p := 4) (v := .tmp 24) rfl ?_); refine wpRowSt rfl 28 (.tmp 4) (.tmp 24) rfl (w.heap.size + 2) (atA 0 0) rfl rfl 28 _ (by first | exact C4.out | exact blk_alloc B4.out _) (by kernel_rfl) rfl rfl ?_))
      first
        | (refine bodyPost_ret (results_ctt rfl _ _ (w.heap.size + 2) 28 (atA 0 0) (0, 0) _ rfl (setRow_heap _ _ _ _ _ _ C4.out) Tryz.underlying28 rfl (by kernel_rfl)) rfl ?_
           exact ⟨rfl, rowBelow HB2.out (by omega) _⟩)
        | (refine bodyPost_ret (results_ctt rfl _ _ (w.heap.size + 2) 28 (atA 0 0) (0, 0) _ rfl (setRow_heap _ _ _ _ _ _ (blk_alloc B4.out _)) Tryz.underlying28 rfl (by kernel_rfl)) rfl ?_
           exact ⟨rfl, rowBelow (below_alloc HB1.out _) (by omega) _⟩)
  refine main _ _ ⟨ho⟩ ⟨hc⟩ ?_
  by_cases h1 : placeB r k = true
  · right
    exact ⟨if_pos h1, if_neg (fun h2 => h ⟨h1, h2⟩)⟩
  · left
    exact if_neg h1
theorem spot_row (a b c r k p q s t : Int) (w : World) (HO : Aside0 (place_Of.f r k r k = some (p, q, s, t, 0))) (HC : Aside0 (move_Check.f a b c = some 0)) (HR : Aside0 (move_rows.f a b c = some true)) (hx : stepF a b c r = 0) :
  Calls Tryz.prog 22 #[.agg (edA a b c), .agg (atA r k)] w fun e w' => e = .returned (.tuple #[.agg (atA (stepV a b c r) k), .int .i64 0, .int .i64 0]) ∧ Below w.heap.size w w' := by
 have HF := Aside0.mk hx
 have hne : w.heap.size ≠ w.heap.size + 1 := by omega
 have hne2 : w.heap.size + 2 ≠ w.heap.size + 1 := by omega
 have HS := Aside0.mk fun (W : World) (h : W.heap[w.heap.size + 1]? = some (.cells (atA r k) 28 (0, 0))) => step_calls a b c r (w.heap.size + 1) 0 (atA r k) 28 W h rfl
 rw [hx] at HS
 go_enter Tryz.func22, Tryz.ntmps22
 go_wp2_with (first
  | (go_at_call 42; (with_reducible refine (place_Of.calls _ _ _ _ _ _ _ _ _ _ HO.out).mono ?_); rintro e w1 ⟨rfl, hb⟩; have HB1 := Aside0.mk (below_step (bel3 w _ _ _) hb); have B2 := Aside0.mk (blk_below (newBlk3a w _ _ _) hb); have B3 := Aside0.mk (blk_below (newBlk3b w _ _ _) hb); have B4 := Aside0.mk (blk_below (newBlk3c w _ _ _) hb); have hc := fun (o : Obj) (i : Nat) => blk_cell (blk_alloc B2.out o) i; clear hb)
  | (go_at_call 37; (with_reducible refine (move_Check.calls _ _ _ _ _ HC.out).mono ?_); rintro e w2 ⟨rfl, hb⟩; have HB2 := Aside0.mk (below_step (below_alloc HB1.out _) hb); have C2 := Aside0.mk (blk_below (blk_alloc B2.out _) hb); have C3 := Aside0.mk (blk_below (blk_alloc B3.out _) hb); have C4 := Aside0.mk (blk_below (blk_alloc B4.out _) hb); clear hc hb; have hc := fun (i : Nat) => blk_cell C2.out i)
  | (go_at_call 43; (with_reducible refine (move_rows.calls _ _ _ _ _ HR.out).mono ?_); rintro e w3 ⟨rfl, hb⟩; have HB3 := Aside0.mk (below_step HB2.out hb); have D2 := Aside0.mk (blk_below C2.out hb); have D3 := Aside0.mk (blk_below C3.out hb); have D4 := Aside0.mk (blk_below C4.out hb); clear hc hb; have hc := fun (i : Nat) => blk_cell D2.out i)
  | (go_at_call 44; (with_reducible refine (HS.out _ D3.out).mono ?_); rintro e w4 ⟨rfl, hb⟩; have hbp := put_below hb; have HB4 := Aside0.mk (below_step (below_set HB3.out (Nat.le_succ _)) hbp); have E3 := Aside0.mk (blk_below (blk_put D3.out 0 _ (cs' := (atA (stepV a b c r) k)) rfl) hbp); have E4 := Aside0.mk (blk_below (blk_far (p := ⟨w.heap.size + 1, 0, none⟩) D4.out hne2 _) hbp); clear hc hb hbp; have hc := fun (i : Nat) => blk_cell E3.out i)
  | ((with_reducible refine gate_store (t := 28) (p := 4) (v := .tmp 36) rfl ?_); refine wpRowSt rfl 28 (.tmp 4) (.tmp 36) rfl (w.heap.size + 2) (atA (stepV a b c r) k) rfl rfl 28 _ E4.out (by kernel_rfl) rfl rfl ?_))
 refine bodyPost_ret (results_ctt rfl _ _ (w.heap.size + 2) 28 (atA (stepV a b c r) k) (0, 0) _ rfl (setRow_heap _ _ _ _ _ _ E4.out) Tryz.underlying28 rfl (by kernel_rfl)) rfl ?_
 exact ⟨rfl, rowBelow HB4.out (by omega) _⟩
theorem spot_row_off (a b c r k p q s t x : Int) (w : World) (HO : Aside0 (place_Of.f r k r k = some (p, q, s, t, 0))) (HC : Aside0 (move_Check.f a b c = some 0)) (HR : Aside0 (move_rows.f a b c = some true)) (HX : Aside0 (stepF a b c r = x)) (hx : ¬stepF a b c r = 0) :
  Calls Tryz.prog 22 #[.agg (edA a b c), .agg (atA r k)] w fun e w' => e = .returned (.tuple #[.agg (atA 0 0), .int .i64 x, .int .i64 0]) ∧ Below w.heap.size w w' := by
 have hx0 : ¬x = 0 := by rw [← HX.out]; exact hx
 clear hx
 have HF := Aside0.mk HX.out
 have hne : w.heap.size ≠ w.heap.size + 1 := by omega
 have hne2 : w.heap.size + 2 ≠ w.heap.size + 1 := by omega
 have HS := Aside0.mk fun (W : World) (h : W.heap[w.heap.size + 1]? = some (.cells (atA r k) 28 (0, 0))) => step_calls a b c r (w.heap.size + 1) 0 (atA r k) 28 W h rfl
 rw [HX.out] at HS
 go_enter Tryz.func22, Tryz.ntmps22
 go_wp2_with (first
  | (go_at_call 42; (with_reducible refine (place_Of.calls _ _ _ _ _ _ _ _ _ _ HO.out).mono ?_); rintro e w1 ⟨rfl, hb⟩; have HB1 := Aside0.mk (below_step (bel3 w _ _ _) hb); have B2 := Aside0.mk (blk_below (newBlk3a w _ _ _) hb); have B3 := Aside0.mk (blk_below (newBlk3b w _ _ _) hb); have B4 := Aside0.mk (blk_below (newBlk3c w _ _ _) hb); have hc := fun (o : Obj) (i : Nat) => blk_cell (blk_alloc B2.out o) i; clear hb)
  | (go_at_call 37; (with_reducible refine (move_Check.calls _ _ _ _ _ HC.out).mono ?_); rintro e w2 ⟨rfl, hb⟩; have HB2 := Aside0.mk (below_step (below_alloc HB1.out _) hb); have C2 := Aside0.mk (blk_below (blk_alloc B2.out _) hb); have C3 := Aside0.mk (blk_below (blk_alloc B3.out _) hb); have C4 := Aside0.mk (blk_below (blk_alloc B4.out _) hb); clear hc hb; have hc := fun (i : Nat) => blk_cell C2.out i)
  | (go_at_call 43; (with_reducible refine (move_rows.calls _ _ _ _ _ HR.out).mono ?_); rintro e w3 ⟨rfl, hb⟩; have HB3 := Aside0.mk (below_step HB2.out hb); have D2 := Aside0.mk (blk_below C2.out hb); have D3 := Aside0.mk (blk_below C3.out hb); have D4 := Aside0.mk (blk_below C4.out hb); clear hc hb; have hc := fun (i : Nat) => blk_cell D2.out i)
  | (go_at_call 44; (with_reducible refine (HS.out _ D3.out).mono ?_); rintro e w4 ⟨rfl, hb⟩; have hbp := put_below hb; have HB4 := Aside0.mk (below_step (below_set HB3.out (Nat.le_succ _)) hbp); have E3 := Aside0.mk (blk_below (blk_put D3.out 0 _ (cs' := (atA (stepV a b c r) k)) rfl) hbp); have E4 := Aside0.mk (blk_below (blk_far (p := ⟨w.heap.size + 1, 0, none⟩) D4.out hne2 _) hbp); clear hc hb hbp; have hc := fun (i : Nat) => blk_cell E3.out i)
  | ((with_reducible refine gate_store (t := 28) (p := 4) (v := .tmp 34) rfl ?_); refine wpRowSt rfl 28 (.tmp 4) (.tmp 34) rfl (w.heap.size + 2) (atA 0 0) rfl rfl 28 _ E4.out (by kernel_rfl) rfl rfl ?_))
 refine bodyPost_ret (results_ctt rfl _ _ (w.heap.size + 2) 28 (atA 0 0) (0, 0) _ rfl (setRow_heap _ _ _ _ _ _ E4.out) Tryz.underlying28 rfl (by kernel_rfl)) rfl ?_
 exact ⟨rfl, rowBelow HB4.out (by omega) _⟩
theorem spot_col (a b c r k p q s t : Int) (w : World) (HO : Aside0 (place_Of.f r k r k = some (p, q, s, t, 0))) (HC : Aside0 (move_Check.f a b c = some 0)) (HR : Aside0 (move_rows.f a b c = some false)) (hx : stepF a b c k = 0) :
  Calls Tryz.prog 22 #[.agg (edA a b c), .agg (atA r k)] w fun e w' => e = .returned (.tuple #[.agg (atA r (stepV a b c k)), .int .i64 0, .int .i64 0]) ∧ Below w.heap.size w w' := by
 have HF := Aside0.mk hx
 have hne : w.heap.size ≠ w.heap.size + 1 := by omega
 have hne2 : w.heap.size + 2 ≠ w.heap.size + 1 := by omega
 have HS := Aside0.mk fun (W : World) (h : W.heap[w.heap.size + 1]? = some (.cells (atA r k) 28 (0, 0))) => step_calls a b c k (w.heap.size + 1) 1 (atA r k) 28 W h rfl
 rw [hx] at HS
 go_enter Tryz.func22, Tryz.ntmps22
 go_wp2_with (first
  | (go_at_call 42; (with_reducible refine (place_Of.calls _ _ _ _ _ _ _ _ _ _ HO.out).mono ?_); rintro e w1 ⟨rfl, hb⟩; have HB1 := Aside0.mk (below_step (bel3 w _ _ _) hb); have B2 := Aside0.mk (blk_below (newBlk3a w _ _ _) hb); have B3 := Aside0.mk (blk_below (newBlk3b w _ _ _) hb); have B4 := Aside0.mk (blk_below (newBlk3c w _ _ _) hb); have hc := fun (o : Obj) (i : Nat) => blk_cell (blk_alloc B2.out o) i; clear hb)
  | (go_at_call 37; (with_reducible refine (move_Check.calls _ _ _ _ _ HC.out).mono ?_); rintro e w2 ⟨rfl, hb⟩; have HB2 := Aside0.mk (below_step (below_alloc HB1.out _) hb); have C2 := Aside0.mk (blk_below (blk_alloc B2.out _) hb); have C3 := Aside0.mk (blk_below (blk_alloc B3.out _) hb); have C4 := Aside0.mk (blk_below (blk_alloc B4.out _) hb); clear hc hb; have hc := fun (i : Nat) => blk_cell C2.out i)
  | (go_at_call 43; (with_reducible refine (move_rows.calls _ _ _ _ _ HR.out).mono ?_); rintro e w3 ⟨rfl, hb⟩; have HB3 := Aside0.mk (below_step HB2.out hb); have D2 := Aside0.mk (blk_below C2.out hb); have D3 := Aside0.mk (blk_below C3.out hb); have D4 := Aside0.mk (blk_below C4.out hb); clear hc hb; have hc := fun (i : Nat) => blk_cell D2.out i)
  | (go_at_call 44; (with_reducible refine (HS.out _ D3.out).mono ?_); rintro e w4 ⟨rfl, hb⟩; have hbp := put_below hb; have HB4 := Aside0.mk (below_step (below_set HB3.out (Nat.le_succ _)) hbp); have E3 := Aside0.mk (blk_below (blk_put D3.out 1 _ (cs' := (atA r (stepV a b c k))) rfl) hbp); have E4 := Aside0.mk (blk_below (blk_far (p := ⟨w.heap.size + 1, 1, none⟩) D4.out hne2 _) hbp); clear hc hb hbp; have hc := fun (i : Nat) => blk_cell E3.out i)
  | ((with_reducible refine gate_store (t := 28) (p := 4) (v := .tmp 36) rfl ?_); refine wpRowSt rfl 28 (.tmp 4) (.tmp 36) rfl (w.heap.size + 2) (atA r (stepV a b c k)) rfl rfl 28 _ E4.out (by kernel_rfl) rfl rfl ?_))
 refine bodyPost_ret (results_ctt rfl _ _ (w.heap.size + 2) 28 (atA r (stepV a b c k)) (0, 0) _ rfl (setRow_heap _ _ _ _ _ _ E4.out) Tryz.underlying28 rfl (by kernel_rfl)) rfl ?_
 exact ⟨rfl, rowBelow HB4.out (by omega) _⟩
theorem spot_col_off (a b c r k p q s t x : Int) (w : World) (HO : Aside0 (place_Of.f r k r k = some (p, q, s, t, 0))) (HC : Aside0 (move_Check.f a b c = some 0)) (HR : Aside0 (move_rows.f a b c = some false)) (HX : Aside0 (stepF a b c k = x)) (hx : ¬stepF a b c k = 0) :
  Calls Tryz.prog 22 #[.agg (edA a b c), .agg (atA r k)] w fun e w' => e = .returned (.tuple #[.agg (atA 0 0), .int .i64 x, .int .i64 0]) ∧ Below w.heap.size w w' := by
 have hx0 : ¬x = 0 := by rw [← HX.out]; exact hx
 clear hx
 have HF := Aside0.mk HX.out
 have hne : w.heap.size ≠ w.heap.size + 1 := by omega
 have hne2 : w.heap.size + 2 ≠ w.heap.size + 1 := by omega
 have HS := Aside0.mk fun (W : World) (h : W.heap[w.heap.size + 1]? = some (.cells (atA r k) 28 (0, 0))) => step_calls a b c k (w.heap.size + 1) 1 (atA r k) 28 W h rfl
 rw [HX.out] at HS
 go_enter Tryz.func22, Tryz.ntmps22
 go_wp2_with (first
  | (go_at_call 42; (with_reducible refine (place_Of.calls _ _ _ _ _ _ _ _ _ _ HO.out).mono ?_); rintro e w1 ⟨rfl, hb⟩; have HB1 := Aside0.mk (below_step (bel3 w _ _ _) hb); have B2 := Aside0.mk (blk_below (newBlk3a w _ _ _) hb); have B3 := Aside0.mk (blk_below (newBlk3b w _ _ _) hb); have B4 := Aside0.mk (blk_below (newBlk3c w _ _ _) hb); have hc := fun (o : Obj) (i : Nat) => blk_cell (blk_alloc B2.out o) i; clear hb)
  | (go_at_call 37; (with_reducible refine (move_Check.calls _ _ _ _ _ HC.out).mono ?_); rintro e w2 ⟨rfl, hb⟩; have HB2 := Aside0.mk (below_step (below_alloc HB1.out _) hb); have C2 := Aside0.mk (blk_below (blk_alloc B2.out _) hb); have C3 := Aside0.mk (blk_below (blk_alloc B3.out _) hb); have C4 := Aside0.mk (blk_below (blk_alloc B4.out _) hb); clear hc hb; have hc := fun (i : Nat) => blk_cell C2.out i)
  | (go_at_call 43; (with_reducible refine (move_rows.calls _ _ _ _ _ HR.out).mono ?_); rintro e w3 ⟨rfl, hb⟩; have HB3 := Aside0.mk (below_step HB2.out hb); have D2 := Aside0.mk (blk_below C2.out hb); have D3 := Aside0.mk (blk_below C3.out hb); have D4 := Aside0.mk (blk_below C4.out hb); clear hc hb; have hc := fun (i : Nat) => blk_cell D2.out i)
  | (go_at_call 44; (with_reducible refine (HS.out _ D3.out).mono ?_); rintro e w4 ⟨rfl, hb⟩; have hbp := put_below hb; have HB4 := Aside0.mk (below_step (below_set HB3.out (Nat.le_succ _)) hbp); have E3 := Aside0.mk (blk_below (blk_put D3.out 1 _ (cs' := (atA r (stepV a b c k))) rfl) hbp); have E4 := Aside0.mk (blk_below (blk_far (p := ⟨w.heap.size + 1, 1, none⟩) D4.out hne2 _) hbp); clear hc hb hbp; have hc := fun (i : Nat) => blk_cell E3.out i)
  | ((with_reducible refine gate_store (t := 28) (p := 4) (v := .tmp 34) rfl ?_); refine wpRowSt rfl 28 (.tmp 4) (.tmp 34) rfl (w.heap.size + 2) (atA 0 0) rfl rfl 28 _ E4.out (by kernel_rfl) rfl rfl ?_))
 refine bodyPost_ret (results_ctt rfl _ _ (w.heap.size + 2) 28 (atA 0 0) (0, 0) _ rfl (setRow_heap _ _ _ _ _ _ E4.out) Tryz.underlying28 rfl (by kernel_rfl)) rfl ?_
 exact ⟨rfl, rowBelow HB4.out (by omega) _⟩
theorem spot_calls (a b c r k : Int) (w : World) :
  Calls Tryz.prog 22 #[.agg (edA a b c), .agg (atA r k)] w fun e w' => e = .returned (.tuple #[.agg (atA (spotS a b c r k).1.1 (spotS a b c r k).1.2), .int .i64 (spotS a b c r k).2.1, .int .i64 (spotS a b c r k).2.2]) ∧ Below w.heap.size w w' := by
 unfold spotS
 by_cases h : placeB r k = true ∧ edB a b c = true
 ·rw [if_pos h]
  obtain ⟨p, q, s, t, ho⟩ := placeOf_same r k
  rw [if_pos h.1] at ho
  have hc := moveCheck_B a b c
  rw [if_pos h.2] at hc
  cases hr : rowsB a with
  | true =>
   rw [if_pos rfl]
   by_cases hf : stepF a b c r = 0
   ·rw [if_pos hf]
    exact spot_row a b c r k p q s t w ⟨ho⟩ ⟨hc⟩ ⟨by rw [rows_B, hr]⟩ hf
   ·rw [if_neg hf]
    exact spot_row_off a b c r k p q s t _ w ⟨ho⟩ ⟨hc⟩ ⟨by rw [rows_B, hr]⟩ ⟨rfl⟩ hf
  | false =>
   rw [if_neg (by simp)]
   by_cases hf : stepF a b c k = 0
   ·rw [if_pos hf]
    exact spot_col a b c r k p q s t w ⟨ho⟩ ⟨hc⟩ ⟨by rw [rows_B, hr]⟩ hf
   ·rw [if_neg hf]
    exact spot_col_off a b c r k p q s t _ w ⟨ho⟩ ⟨hc⟩ ⟨by rw [rows_B, hr]⟩ ⟨rfl⟩ hf
 ·rw [if_neg h]
  exact spot_no a b c r k w h
def moved11.T11 : Bool × List (List Nat × List Nat) := (true, [([], []), ([0], [0]), ([1], [1]), ([], []), ([3], [3]), ([4], [4]), ([], []), ([], []), ([6, 2, 0, 1, 2, 6, 7], [2, 6]), ([7, 5, 8, 0, 1, 2, 3, 4, 5, 6, 7, 8], [5, 7])])
def moved11.B11 : List Nat := [0, 1, 3, 0, 8, 24, 0, 0, 199, 511]
theorem moved11.tab11 : rtab .any (opsOf Tryz.f76 11) = moved11.T11 := by kernel_rfl
theorem moved11.bits11 : waitsOk moved11.T11.2 moved11.B11 = true := by kernel_rfl
theorem moved_cell_lost (f1 : S26) (a0 a1 b0 b1 : Int) (a2 a3 b2 b3 : Bool) (f4 : ByteArray) (A : Option Addr) (c : Nat) (x y z : Int) (r k ft er : Int) (w : World) (HS : Aside0 (∀ W : World, Calls Tryz.prog 100 #[.agg (edA x y z), .agg #[.int .i64 a0, .int .i64 a1]] W fun e w' => e = .returned (.tuple #[.agg #[.int .i64 r, .int .i64 k], .int .i64 ft, .int .i64 er]) ∧ Below W.heap.size W w')) (hz : ¬ft = 0) :
  Calls Tryz.prog 76 #[nodeV ⟨2, f1, ⟨⟨a0, a1⟩, a2, a3⟩, ⟨⟨b0, b1⟩, b2, b3⟩, f4, []⟩ A c, .agg (edA x y z)] w (NodeOut lostN w) := by
 have HB := Aside0.mk (bel3 w (.cells (nodeA ⟨2, f1, ⟨⟨a0, a1⟩, a2, a3⟩, ⟨⟨b0, b1⟩, b2, b3⟩, f4, []⟩ A c) 33) (.cells (edA x y z) 47) (.cells (nodeA zeroN none 0) 33))
 have B2 := Aside0.mk (newBlk3a w (.cells (nodeA ⟨2, f1, ⟨⟨a0, a1⟩, a2, a3⟩, ⟨⟨b0, b1⟩, b2, b3⟩, f4, []⟩ A c) 33) (.cells (edA x y z) 47) (.cells (nodeA zeroN none 0) 33))
 have B3 := Aside0.mk (newBlk3b w (.cells (nodeA ⟨2, f1, ⟨⟨a0, a1⟩, a2, a3⟩, ⟨⟨b0, b1⟩, b2, b3⟩, f4, []⟩ A c) 33) (.cells (edA x y z) 47) (.cells (nodeA zeroN none 0) 33))
 have B4 := Aside0.mk (newBlk3c w (.cells (nodeA ⟨2, f1, ⟨⟨a0, a1⟩, a2, a3⟩, ⟨⟨b0, b1⟩, b2, b3⟩, f4, []⟩ A c) 33) (.cells (edA x y z) 47) (.cells (nodeA zeroN none 0) 33))
 have h2 := fun i => blk_cell B2.out i
 go_enter Tryz.func76, Tryz.ntmps76
 go_wp2_with (first
  | ((with_reducible refine gate_dst (N := 19) rfl ?_); refine wpPartLd 19 rfl rfl 47 (.tmp 3) rfl _ rfl _ (edA x y z) [] (B3.out) rfl Tryz.underlying47 rfl (by kernel_rfl) ?_)
  | (go_at_call 100; (with_reducible refine (HS.out _).mono ?_); rintro e w1 ⟨rfl, hb⟩; have HB_1 := Aside0.mk (below_step HB.out hb); have n_1 := Aside0.mk (blk_below B2.out hb); have e_1 := Aside0.mk (blk_below B3.out hb); have o_1 := Aside0.mk (blk_below B4.out hb); clear hb HB B2 B3 B4 h2)
  | ((with_reducible refine gate_store (t := 28) (p := 5) (v := .tmp 24) rfl ?_); refine wpRowSt rfl 28 (.tmp 5) (.tmp 24) rfl (w1.heap.size) (#[.int .i64 r, .int .i64 k]) rfl rfl 28 _ (newBlk w1 _) (by kernel_rfl) rfl rfl ?_; have HB_2 := Aside0.mk (rowBelow (below_alloc HB_1.out (.cells #[.int .i64 0, .int .i64 0] 28)) HB_1.out.size (#[.int .i64 r, .int .i64 k])); have n_2 := Aside0.mk (rowNew n_1.out (.cells #[.int .i64 0, .int .i64 0] 28) (#[.int .i64 r, .int .i64 k])); have Nn_p := Aside0.mk (Nat.ne_of_lt (blk_lt n_1.out)); have e_2 := Aside0.mk (rowNew e_1.out (.cells #[.int .i64 0, .int .i64 0] 28) (#[.int .i64 r, .int .i64 k])); have Ne_p := Aside0.mk (Nat.ne_of_lt (blk_lt e_1.out)); have o_2 := Aside0.mk (rowNew o_1.out (.cells #[.int .i64 0, .int .i64 0] 28) (#[.int .i64 r, .int .i64 k])); have No_p := Aside0.mk (Nat.ne_of_lt (blk_lt o_1.out)); have p_2 := Aside0.mk (setRow_heap _ _ _ (#[.int .i64 r, .int .i64 k]) _ _ (newBlk w1 (.cells #[.int .i64 0, .int .i64 0] 28))); clear HB_1 n_1 e_1 o_1)
  | (go_at_call 60; (with_reducible refine (refLost_calls _).mono ?_); rintro e w2 ⟨rfl, hb⟩; have HB_3 := Aside0.mk (below_step HB_2.out hb); have n_3 := Aside0.mk (blk_below n_2.out hb); have e_3 := Aside0.mk (blk_below e_2.out hb); have o_3 := Aside0.mk (blk_below o_2.out hb); have p_3 := Aside0.mk (blk_below p_2.out hb); clear hb HB_2 n_2 e_2 o_2 p_2)
  | ((with_reducible refine gate_store (t := 33) (p := 4) (v := .tmp 29) rfl ?_); refine wpRowSt rfl 33 (.tmp 4) (.tmp 29) rfl ((w.heap.size + 2)) (nodeA lostN none 0) rfl rfl 33 _ (o_3.out) (by kernel_rfl) rfl rfl ?_))
 refine bodyPost_ret (results_cell_row rfl _ _ (w.heap.size + 2) 33 (nodeA lostN none 0) (0, 0) _ rfl (setRow_heap _ _ _ _ _ _ o_3.out) Tryz.underlying33 rfl (by kernel_rfl)) rfl ?_
 exact ⟨none, 0, rfl, kidsF_nil _ _ _ _, rowBelow HB_3.out (by omega) _⟩
theorem moved_cell (f1 : S26) (a0 a1 b0 b1 : Int) (a2 a3 b2 b3 : Bool) (f4 : ByteArray) (A : Option Addr) (c : Nat) (x y z : Int) (r k er : Int) (w : World) (HS : Aside0 (∀ W : World, Calls Tryz.prog 100 #[.agg (edA x y z), .agg #[.int .i64 a0, .int .i64 a1]] W fun e w' => e = .returned (.tuple #[.agg #[.int .i64 r, .int .i64 k], .int .i64 0, .int .i64 er]) ∧ Below W.heap.size W w')) :
  Calls Tryz.prog 76 #[nodeV ⟨2, f1, ⟨⟨a0, a1⟩, a2, a3⟩, ⟨⟨b0, b1⟩, b2, b3⟩, f4, []⟩ A c, .agg (edA x y z)] w (NodeOut ⟨2, f1, ⟨⟨r, k⟩, a2, a3⟩, ⟨⟨b0, b1⟩, b2, b3⟩, f4, []⟩ w) := by
 have HB := Aside0.mk (bel3 w (.cells (nodeA ⟨2, f1, ⟨⟨a0, a1⟩, a2, a3⟩, ⟨⟨b0, b1⟩, b2, b3⟩, f4, []⟩ A c) 33) (.cells (edA x y z) 47) (.cells (nodeA zeroN none 0) 33))
 have B2 := Aside0.mk (newBlk3a w (.cells (nodeA ⟨2, f1, ⟨⟨a0, a1⟩, a2, a3⟩, ⟨⟨b0, b1⟩, b2, b3⟩, f4, []⟩ A c) 33) (.cells (edA x y z) 47) (.cells (nodeA zeroN none 0) 33))
 have B3 := Aside0.mk (newBlk3b w (.cells (nodeA ⟨2, f1, ⟨⟨a0, a1⟩, a2, a3⟩, ⟨⟨b0, b1⟩, b2, b3⟩, f4, []⟩ A c) 33) (.cells (edA x y z) 47) (.cells (nodeA zeroN none 0) 33))
 have B4 := Aside0.mk (newBlk3c w (.cells (nodeA ⟨2, f1, ⟨⟨a0, a1⟩, a2, a3⟩, ⟨⟨b0, b1⟩, b2, b3⟩, f4, []⟩ A c) 33) (.cells (edA x y z) 47) (.cells (nodeA zeroN none 0) 33))
 have h2 := fun i => blk_cell B2.out i
 go_enter Tryz.func76, Tryz.ntmps76
 go_wp2_with (first
  | ((with_reducible refine gate_dst (N := 19) rfl ?_); refine wpPartLd 19 rfl rfl 47 (.tmp 3) rfl _ rfl _ (edA x y z) [] (B3.out) rfl Tryz.underlying47 rfl (by kernel_rfl) ?_)
  | (go_at_call 100; (with_reducible refine (HS.out _).mono ?_); rintro e w1 ⟨rfl, hb⟩; have HB_1 := Aside0.mk (below_step HB.out hb); have n_1 := Aside0.mk (blk_below B2.out hb); have e_1 := Aside0.mk (blk_below B3.out hb); have o_1 := Aside0.mk (blk_below B4.out hb); clear hb HB B2 B3 B4 h2)
  | ((with_reducible refine gate_store (t := 28) (p := 5) (v := .tmp 24) rfl ?_); refine wpRowSt rfl 28 (.tmp 5) (.tmp 24) rfl (w1.heap.size) (#[.int .i64 r, .int .i64 k]) rfl rfl 28 _ (newBlk w1 _) (by kernel_rfl) rfl rfl ?_; have HB_2 := Aside0.mk (rowBelow (below_alloc HB_1.out (.cells #[.int .i64 0, .int .i64 0] 28)) HB_1.out.size (#[.int .i64 r, .int .i64 k])); have n_2 := Aside0.mk (rowNew n_1.out (.cells #[.int .i64 0, .int .i64 0] 28) (#[.int .i64 r, .int .i64 k])); have Nn_p := Aside0.mk (Nat.ne_of_lt (blk_lt n_1.out)); have e_2 := Aside0.mk (rowNew e_1.out (.cells #[.int .i64 0, .int .i64 0] 28) (#[.int .i64 r, .int .i64 k])); have Ne_p := Aside0.mk (Nat.ne_of_lt (blk_lt e_1.out)); have o_2 := Aside0.mk (rowNew o_1.out (.cells #[.int .i64 0, .int .i64 0] 28) (#[.int .i64 r, .int .i64 k])); have No_p := Aside0.mk (Nat.ne_of_lt (blk_lt o_1.out)); have p_2 := Aside0.mk (setRow_heap _ _ _ (#[.int .i64 r, .int .i64 k]) _ _ (newBlk w1 (.cells #[.int .i64 0, .int .i64 0] 28))); clear HB_1 n_1 e_1 o_1)
  | ((with_reducible refine gate_dst (N := 30) rfl ?_); refine wpPartLd 30 rfl rfl 28 (.tmp 5) rfl _ rfl _ (#[.int .i64 r, .int .i64 k]) [] (p_2.out) rfl Tryz.underlying28 rfl (by kernel_rfl) ?_)
  | ((with_reducible refine gate_store (t := 28) (p := 32) (v := .tmp 30) rfl ?_); refine wpMidSt rfl 28 (.tmp 32) (.tmp 30) rfl w.heap.size 6 _ ([.int .i64 r, .int .i64 k]) rfl rfl rfl _ (nodeA ⟨2, f1, ⟨⟨a0, a1⟩, a2, a3⟩, ⟨⟨b0, b1⟩, b2, b3⟩, f4, []⟩ A c) (nodeA ⟨2, f1, ⟨⟨r, k⟩, a2, a3⟩, ⟨⟨b0, b1⟩, b2, b3⟩, f4, []⟩ A c) (n_2.out) (by kernel_rfl) rfl rfl rfl ?_; have HB_3 := Aside0.mk (rowBelow HB_2.out (Nat.le_refl _) (nodeA ⟨2, f1, ⟨⟨r, k⟩, a2, a3⟩, ⟨⟨b0, b1⟩, b2, b3⟩, f4, []⟩ A c)); have n_3 := Aside0.mk (setRow_heap _ _ _ (nodeA ⟨2, f1, ⟨⟨r, k⟩, a2, a3⟩, ⟨⟨b0, b1⟩, b2, b3⟩, f4, []⟩ A c) _ _ n_2.out); have e_3 := Aside0.mk (rowOther (g := w.heap.size) (nodeA ⟨2, f1, ⟨⟨r, k⟩, a2, a3⟩, ⟨⟨b0, b1⟩, b2, b3⟩, f4, []⟩ A c) e_2.out (by omega)); have o_3 := Aside0.mk (rowOther (g := w.heap.size) (nodeA ⟨2, f1, ⟨⟨r, k⟩, a2, a3⟩, ⟨⟨b0, b1⟩, b2, b3⟩, f4, []⟩ A c) o_2.out (by omega)); have p_3 := Aside0.mk (rowOther (g := w.heap.size) (nodeA ⟨2, f1, ⟨⟨r, k⟩, a2, a3⟩, ⟨⟨b0, b1⟩, b2, b3⟩, f4, []⟩ A c) p_2.out (fun he => by have := Nn_p.out; omega)); clear HB_2 n_2 e_2 o_2 p_2)
  | ((with_reducible refine gate_dst (N := 33) rfl ?_); refine wpPartLd 33 rfl rfl 33 (.tmp 2) rfl _ rfl _ (nodeA ⟨2, f1, ⟨⟨r, k⟩, a2, a3⟩, ⟨⟨b0, b1⟩, b2, b3⟩, f4, []⟩ A c) [] (n_3.out) rfl Tryz.underlying33 rfl (by kernel_rfl) ?_)
  | ((with_reducible refine gate_store (t := 33) (p := 4) (v := .tmp 33) rfl ?_); refine wpRowSt rfl 33 (.tmp 4) (.tmp 33) rfl ((w.heap.size + 2)) (nodeA ⟨2, f1, ⟨⟨r, k⟩, a2, a3⟩, ⟨⟨b0, b1⟩, b2, b3⟩, f4, []⟩ A c) rfl rfl 33 _ (o_3.out) (by kernel_rfl) rfl rfl ?_))
 refine bodyPost_ret (results_cell_row rfl _ _ (w.heap.size + 2) 33 (nodeA ⟨2, f1, ⟨⟨r, k⟩, a2, a3⟩, ⟨⟨b0, b1⟩, b2, b3⟩, f4, []⟩ A c) (0, 0) _ rfl (setRow_heap _ _ _ _ _ _ o_3.out) Tryz.underlying33 rfl (by kernel_rfl)) rfl ?_
 exact ⟨A, c, rfl, kidsF_nil _ _ _ _, rowBelow HB_3.out (by omega) _⟩
theorem moved_range_lost (f1 : S26) (a0 a1 b0 b1 : Int) (a2 a3 b2 b3 : Bool) (f4 : ByteArray) (A : Option Addr) (c : Nat) (x y z : Int) (t l o r oe t' l' o' r' er : Int) (w : World) (HO : Aside0 (∀ W : World, Calls Tryz.prog 101 #[.agg #[.int .i64 a0, .int .i64 a1], .agg #[.int .i64 b0, .int .i64 b1]] W fun e w' => e = .returned (.tuple #[.agg #[.int .i64 t, .int .i64 l, .int .i64 o, .int .i64 r], .int .i64 oe]) ∧ Below W.heap.size W w')) (HR : Aside0 (∀ W : World, Calls Tryz.prog 102 #[.agg (edA x y z), .agg #[.int .i64 t, .int .i64 l, .int .i64 o, .int .i64 r]] W fun e w' => e = .returned (.tuple #[.agg #[.int .i64 t', .int .i64 l', .int .i64 o', .int .i64 r'], .bool false, .int .i64 er]) ∧ Below W.heap.size W w')) :
  Calls Tryz.prog 76 #[nodeV ⟨3, f1, ⟨⟨a0, a1⟩, a2, a3⟩, ⟨⟨b0, b1⟩, b2, b3⟩, f4, []⟩ A c, .agg (edA x y z)] w (NodeOut lostN w) := by
 have HB := Aside0.mk (bel3 w (.cells (nodeA ⟨3, f1, ⟨⟨a0, a1⟩, a2, a3⟩, ⟨⟨b0, b1⟩, b2, b3⟩, f4, []⟩ A c) 33) (.cells (edA x y z) 47) (.cells (nodeA zeroN none 0) 33))
 have B2 := Aside0.mk (newBlk3a w (.cells (nodeA ⟨3, f1, ⟨⟨a0, a1⟩, a2, a3⟩, ⟨⟨b0, b1⟩, b2, b3⟩, f4, []⟩ A c) 33) (.cells (edA x y z) 47) (.cells (nodeA zeroN none 0) 33))
 have B3 := Aside0.mk (newBlk3b w (.cells (nodeA ⟨3, f1, ⟨⟨a0, a1⟩, a2, a3⟩, ⟨⟨b0, b1⟩, b2, b3⟩, f4, []⟩ A c) 33) (.cells (edA x y z) 47) (.cells (nodeA zeroN none 0) 33))
 have B4 := Aside0.mk (newBlk3c w (.cells (nodeA ⟨3, f1, ⟨⟨a0, a1⟩, a2, a3⟩, ⟨⟨b0, b1⟩, b2, b3⟩, f4, []⟩ A c) 33) (.cells (edA x y z) 47) (.cells (nodeA zeroN none 0) 33))
 have h2 := fun i => blk_cell B2.out i
 go_enter Tryz.func76, Tryz.ntmps76
 go_wp2_with (first
  | (go_at_call 101; (with_reducible refine (HO.out _).mono ?_); rintro e w1 ⟨rfl, hb⟩; have HB_1 := Aside0.mk (below_step HB.out hb); have n_1 := Aside0.mk (blk_below B2.out hb); have e_1 := Aside0.mk (blk_below B3.out hb); have o_1 := Aside0.mk (blk_below B4.out hb); clear hb HB B2 B3 B4 h2)
  | ((with_reducible refine gate_store (t := 64) (p := 8) (v := .tmp 42) rfl ?_); refine wpRowSt rfl 64 (.tmp 8) (.tmp 42) rfl (w1.heap.size) (#[.int .i64 t, .int .i64 l, .int .i64 o, .int .i64 r]) rfl rfl 64 _ (newBlk w1 _) (by kernel_rfl) rfl rfl ?_; have HB_2 := Aside0.mk (rowBelow (below_alloc HB_1.out (.cells #[.int .i64 0, .int .i64 0, .int .i64 0, .int .i64 0] 64)) HB_1.out.size (#[.int .i64 t, .int .i64 l, .int .i64 o, .int .i64 r])); have n_2 := Aside0.mk (rowNew n_1.out (.cells #[.int .i64 0, .int .i64 0, .int .i64 0, .int .i64 0] 64) (#[.int .i64 t, .int .i64 l, .int .i64 o, .int .i64 r])); have Nn_p := Aside0.mk (Nat.ne_of_lt (blk_lt n_1.out)); have e_2 := Aside0.mk (rowNew e_1.out (.cells #[.int .i64 0, .int .i64 0, .int .i64 0, .int .i64 0] 64) (#[.int .i64 t, .int .i64 l, .int .i64 o, .int .i64 r])); have Ne_p := Aside0.mk (Nat.ne_of_lt (blk_lt e_1.out)); have o_2 := Aside0.mk (rowNew o_1.out (.cells #[.int .i64 0, .int .i64 0, .int .i64 0, .int .i64 0] 64) (#[.int .i64 t, .int .i64 l, .int .i64 o, .int .i64 r])); have No_p := Aside0.mk (Nat.ne_of_lt (blk_lt o_1.out)); have p_2 := Aside0.mk (setRow_heap _ _ _ (#[.int .i64 t, .int .i64 l, .int .i64 o, .int .i64 r]) _ _ (newBlk w1 (.cells #[.int .i64 0, .int .i64 0, .int .i64 0, .int .i64 0] 64))); clear HB_1 n_1 e_1 o_1)
  | ((with_reducible refine gate_dst (N := 45) rfl ?_); refine wpPartLd 45 rfl rfl 47 (.tmp 3) rfl _ rfl _ (edA x y z) [] (e_2.out) rfl Tryz.underlying47 rfl (by kernel_rfl) ?_)
  | ((with_reducible refine gate_dst (N := 46) rfl ?_); refine wpPartLd 46 rfl rfl 64 (.tmp 8) rfl _ rfl _ (#[.int .i64 t, .int .i64 l, .int .i64 o, .int .i64 r]) [] (p_2.out) rfl Tryz.underlying64 rfl (by kernel_rfl) ?_)
  | (go_at_call 102; (with_reducible refine (HR.out _).mono ?_); rintro e w2 ⟨rfl, hb⟩; have HB_3 := Aside0.mk (below_step HB_2.out hb); have n_3 := Aside0.mk (blk_below n_2.out hb); have e_3 := Aside0.mk (blk_below e_2.out hb); have o_3 := Aside0.mk (blk_below o_2.out hb); have p_3 := Aside0.mk (blk_below p_2.out hb); clear hb HB_2 n_2 e_2 o_2 p_2)
  | ((with_reducible refine gate_store (t := 64) (p := 10) (v := .tmp 48) rfl ?_); refine wpRowSt rfl 64 (.tmp 10) (.tmp 48) rfl (w2.heap.size) (#[.int .i64 t', .int .i64 l', .int .i64 o', .int .i64 r']) rfl rfl 64 _ (newBlk w2 _) (by kernel_rfl) rfl rfl ?_; have HB_4 := Aside0.mk (rowBelow (below_alloc HB_3.out (.cells #[.int .i64 0, .int .i64 0, .int .i64 0, .int .i64 0] 64)) HB_3.out.size (#[.int .i64 t', .int .i64 l', .int .i64 o', .int .i64 r'])); have n_4 := Aside0.mk (rowNew n_3.out (.cells #[.int .i64 0, .int .i64 0, .int .i64 0, .int .i64 0] 64) (#[.int .i64 t', .int .i64 l', .int .i64 o', .int .i64 r'])); have Nn_q := Aside0.mk (Nat.ne_of_lt (blk_lt n_3.out)); have e_4 := Aside0.mk (rowNew e_3.out (.cells #[.int .i64 0, .int .i64 0, .int .i64 0, .int .i64 0] 64) (#[.int .i64 t', .int .i64 l', .int .i64 o', .int .i64 r'])); have Ne_q := Aside0.mk (Nat.ne_of_lt (blk_lt e_3.out)); have o_4 := Aside0.mk (rowNew o_3.out (.cells #[.int .i64 0, .int .i64 0, .int .i64 0, .int .i64 0] 64) (#[.int .i64 t', .int .i64 l', .int .i64 o', .int .i64 r'])); have No_q := Aside0.mk (Nat.ne_of_lt (blk_lt o_3.out)); have p_4 := Aside0.mk (rowNew p_3.out (.cells #[.int .i64 0, .int .i64 0, .int .i64 0, .int .i64 0] 64) (#[.int .i64 t', .int .i64 l', .int .i64 o', .int .i64 r'])); have Np_q := Aside0.mk (Nat.ne_of_lt (blk_lt p_3.out)); have q_4 := Aside0.mk (setRow_heap _ _ _ (#[.int .i64 t', .int .i64 l', .int .i64 o', .int .i64 r']) _ _ (newBlk w2 (.cells #[.int .i64 0, .int .i64 0, .int .i64 0, .int .i64 0] 64))); clear HB_3 n_3 e_3 o_3 p_3)
  | (go_at_call 60; (with_reducible refine (refLost_calls _).mono ?_); rintro e w3 ⟨rfl, hb⟩; have HB_5 := Aside0.mk (below_step HB_4.out hb); have n_5 := Aside0.mk (blk_below n_4.out hb); have e_5 := Aside0.mk (blk_below e_4.out hb); have o_5 := Aside0.mk (blk_below o_4.out hb); have p_5 := Aside0.mk (blk_below p_4.out hb); have q_5 := Aside0.mk (blk_below q_4.out hb); clear hb HB_4 n_4 e_4 o_4 p_4 q_4)
  | ((with_reducible refine gate_store (t := 33) (p := 4) (v := .tmp 53) rfl ?_); refine wpRowSt rfl 33 (.tmp 4) (.tmp 53) rfl ((w.heap.size + 2)) (nodeA lostN none 0) rfl rfl 33 _ (o_5.out) (by kernel_rfl) rfl rfl ?_))
 refine bodyPost_ret (results_cell_row rfl _ _ (w.heap.size + 2) 33 (nodeA lostN none 0) (0, 0) _ rfl (setRow_heap _ _ _ _ _ _ o_5.out) Tryz.underlying33 rfl (by kernel_rfl)) rfl ?_
 exact ⟨none, 0, rfl, kidsF_nil _ _ _ _, rowBelow HB_5.out (by omega) _⟩
theorem moved_range (f1 : S26) (a0 a1 b0 b1 : Int) (a2 a3 b2 b3 : Bool) (f4 : ByteArray) (A : Option Addr) (c : Nat) (x y z : Int) (t l o r oe t' l' o' r' er m1 m2 m3 m4 : Int) (w : World) (HO : Aside0 (∀ W : World, Calls Tryz.prog 101 #[.agg #[.int .i64 a0, .int .i64 a1], .agg #[.int .i64 b0, .int .i64 b1]] W fun e w' => e = .returned (.tuple #[.agg #[.int .i64 t, .int .i64 l, .int .i64 o, .int .i64 r], .int .i64 oe]) ∧ Below W.heap.size W w')) (HR : Aside0 (∀ W : World, Calls Tryz.prog 102 #[.agg (edA x y z), .agg #[.int .i64 t, .int .i64 l, .int .i64 o, .int .i64 r]] W fun e w' => e = .returned (.tuple #[.agg #[.int .i64 t', .int .i64 l', .int .i64 o', .int .i64 r'], .bool true, .int .i64 er]) ∧ Below W.heap.size W w')) (HM1 : Aside0 (∀ W : World, Calls Tryz.prog 103 #[.int .i64 a0, .int .i64 b0, .int .i64 t', .int .i64 o'] W fun e w' => e = .returned (.tuple #[.int .i64 m1, .int .i64 m2]) ∧ Below W.heap.size W w')) (HM2 : Aside0 (∀ W : World, Calls Tryz.prog 103 #[.int .i64 a1, .int .i64 b1, .int .i64 l', .int .i64 r'] W fun e w' => e = .returned (.tuple #[.int .i64 m3, .int .i64 m4]) ∧ Below W.heap.size W w')) :
  Calls Tryz.prog 76 #[nodeV ⟨3, f1, ⟨⟨a0, a1⟩, a2, a3⟩, ⟨⟨b0, b1⟩, b2, b3⟩, f4, []⟩ A c, .agg (edA x y z)] w (NodeOut ⟨3, f1, ⟨⟨m1, m3⟩, a2, a3⟩, ⟨⟨m2, m4⟩, b2, b3⟩, f4, []⟩ w) := by
 have HB := Aside0.mk (bel3 w (.cells (nodeA ⟨3, f1, ⟨⟨a0, a1⟩, a2, a3⟩, ⟨⟨b0, b1⟩, b2, b3⟩, f4, []⟩ A c) 33) (.cells (edA x y z) 47) (.cells (nodeA zeroN none 0) 33))
 have B2 := Aside0.mk (newBlk3a w (.cells (nodeA ⟨3, f1, ⟨⟨a0, a1⟩, a2, a3⟩, ⟨⟨b0, b1⟩, b2, b3⟩, f4, []⟩ A c) 33) (.cells (edA x y z) 47) (.cells (nodeA zeroN none 0) 33))
 have B3 := Aside0.mk (newBlk3b w (.cells (nodeA ⟨3, f1, ⟨⟨a0, a1⟩, a2, a3⟩, ⟨⟨b0, b1⟩, b2, b3⟩, f4, []⟩ A c) 33) (.cells (edA x y z) 47) (.cells (nodeA zeroN none 0) 33))
 have B4 := Aside0.mk (newBlk3c w (.cells (nodeA ⟨3, f1, ⟨⟨a0, a1⟩, a2, a3⟩, ⟨⟨b0, b1⟩, b2, b3⟩, f4, []⟩ A c) 33) (.cells (edA x y z) 47) (.cells (nodeA zeroN none 0) 33))
 have h2 := fun i => blk_cell B2.out i
 go_enter Tryz.func76, Tryz.ntmps76
 go_wp2_with (first
  | (go_at_call 101; (with_reducible refine (HO.out _).mono ?_); rintro e w1 ⟨rfl, hb⟩; have HB_1 := Aside0.mk (below_step HB.out hb); have n_1 := Aside0.mk (blk_below B2.out hb); have e_1 := Aside0.mk (blk_below B3.out hb); have o_1 := Aside0.mk (blk_below B4.out hb); clear hb HB B2 B3 B4 h2)
  | ((with_reducible refine gate_store (t := 64) (p := 8) (v := .tmp 42) rfl ?_); refine wpRowSt rfl 64 (.tmp 8) (.tmp 42) rfl (w1.heap.size) (#[.int .i64 t, .int .i64 l, .int .i64 o, .int .i64 r]) rfl rfl 64 _ (newBlk w1 _) (by kernel_rfl) rfl rfl ?_; have HB_2 := Aside0.mk (rowBelow (below_alloc HB_1.out (.cells #[.int .i64 0, .int .i64 0, .int .i64 0, .int .i64 0] 64)) HB_1.out.size (#[.int .i64 t, .int .i64 l, .int .i64 o, .int .i64 r])); have n_2 := Aside0.mk (rowNew n_1.out (.cells #[.int .i64 0, .int .i64 0, .int .i64 0, .int .i64 0] 64) (#[.int .i64 t, .int .i64 l, .int .i64 o, .int .i64 r])); have Nn_p := Aside0.mk (Nat.ne_of_lt (blk_lt n_1.out)); have e_2 := Aside0.mk (rowNew e_1.out (.cells #[.int .i64 0, .int .i64 0, .int .i64 0, .int .i64 0] 64) (#[.int .i64 t, .int .i64 l, .int .i64 o, .int .i64 r])); have Ne_p := Aside0.mk (Nat.ne_of_lt (blk_lt e_1.out)); have o_2 := Aside0.mk (rowNew o_1.out (.cells #[.int .i64 0, .int .i64 0, .int .i64 0, .int .i64 0] 64) (#[.int .i64 t, .int .i64 l, .int .i64 o, .int .i64 r])); have No_p := Aside0.mk (Nat.ne_of_lt (blk_lt o_1.out)); have p_2 := Aside0.mk (setRow_heap _ _ _ (#[.int .i64 t, .int .i64 l, .int .i64 o, .int .i64 r]) _ _ (newBlk w1 (.cells #[.int .i64 0, .int .i64 0, .int .i64 0, .int .i64 0] 64))); clear HB_1 n_1 e_1 o_1)
  | ((with_reducible refine gate_dst (N := 45) rfl ?_); refine wpPartLd 45 rfl rfl 47 (.tmp 3) rfl _ rfl _ (edA x y z) [] (e_2.out) rfl Tryz.underlying47 rfl (by kernel_rfl) ?_)
  | ((with_reducible refine gate_dst (N := 46) rfl ?_); refine wpPartLd 46 rfl rfl 64 (.tmp 8) rfl _ rfl _ (#[.int .i64 t, .int .i64 l, .int .i64 o, .int .i64 r]) [] (p_2.out) rfl Tryz.underlying64 rfl (by kernel_rfl) ?_)
  | (go_at_call 102; (with_reducible refine (HR.out _).mono ?_); rintro e w2 ⟨rfl, hb⟩; have HB_3 := Aside0.mk (below_step HB_2.out hb); have n_3 := Aside0.mk (blk_below n_2.out hb); have e_3 := Aside0.mk (blk_below e_2.out hb); have o_3 := Aside0.mk (blk_below o_2.out hb); have p_3 := Aside0.mk (blk_below p_2.out hb); clear hb HB_2 n_2 e_2 o_2 p_2)
  | ((with_reducible refine gate_store (t := 64) (p := 10) (v := .tmp 48) rfl ?_); refine wpRowSt rfl 64 (.tmp 10) (.tmp 48) rfl (w2.heap.size) (#[.int .i64 t', .int .i64 l', .int .i64 o', .int .i64 r']) rfl rfl 64 _ (newBlk w2 _) (by kernel_rfl) rfl rfl ?_; have HB_4 := Aside0.mk (rowBelow (below_alloc HB_3.out (.cells #[.int .i64 0, .int .i64 0, .int .i64 0, .int .i64 0] 64)) HB_3.out.size (#[.int .i64 t', .int .i64 l', .int .i64 o', .int .i64 r'])); have n_4 := Aside0.mk (rowNew n_3.out (.cells #[.int .i64 0, .int .i64 0, .int .i64 0, .int .i64 0] 64) (#[.int .i64 t', .int .i64 l', .int .i64 o', .int .i64 r'])); have Nn_q := Aside0.mk (Nat.ne_of_lt (blk_lt n_3.out)); have e_4 := Aside0.mk (rowNew e_3.out (.cells #[.int .i64 0, .int .i64 0, .int .i64 0, .int .i64 0] 64) (#[.int .i64 t', .int .i64 l', .int .i64 o', .int .i64 r'])); have Ne_q := Aside0.mk (Nat.ne_of_lt (blk_lt e_3.out)); have o_4 := Aside0.mk (rowNew o_3.out (.cells #[.int .i64 0, .int .i64 0, .int .i64 0, .int .i64 0] 64) (#[.int .i64 t', .int .i64 l', .int .i64 o', .int .i64 r'])); have No_q := Aside0.mk (Nat.ne_of_lt (blk_lt o_3.out)); have p_4 := Aside0.mk (rowNew p_3.out (.cells #[.int .i64 0, .int .i64 0, .int .i64 0, .int .i64 0] 64) (#[.int .i64 t', .int .i64 l', .int .i64 o', .int .i64 r'])); have Np_q := Aside0.mk (Nat.ne_of_lt (blk_lt p_3.out)); have q_4 := Aside0.mk (setRow_heap _ _ _ (#[.int .i64 t', .int .i64 l', .int .i64 o', .int .i64 r']) _ _ (newBlk w2 (.cells #[.int .i64 0, .int .i64 0, .int .i64 0, .int .i64 0] 64))); clear HB_3 n_3 e_3 o_3 p_3))
 refine start_ (n := 10) (S := fun w' => w'.heap[w.heap.size]? = some (.cells (nodeA ⟨3, f1, ⟨⟨a0, a1⟩, a2, a3⟩, ⟨⟨b0, b1⟩, b2, b3⟩, f4, []⟩ A c) 33 (0, 0)) ∧ w'.heap[w.heap.size + 2]? = some (.cells (nodeA zeroN none 0) 33 (0, 0)) ∧ w'.heap[w2.heap.size]? = some (.cells #[.int .i64 t', .int .i64 l', .int .i64 o', .int .i64 r'] 64 (0, 0)) ∧ Below w.heap.size w w') (ds := []) (Array.replicate 10 false) (by kernel_rfl) rfl rfl ⟨blk_drew n_4.out, blk_drew o_4.out, blk_drew q_4.out, below_drew1 HB_4.out⟩ (fun hHeld => ?_)
 refine with_tabW moved11.tab11 moved11.bits11 (fun HT_ HW_ => ?_)
 refine pz 0 54 HT_ ?_; refine pz 1 55 HT_ ?_; refine pz 3 57 HT_ ?_; refine pz 4 58 HT_ ?_
 refine tz 2 56 HT_ HW_ (hr := (by rintro w' s0; have q := fun i => blk_cell s0.1 i; go_simp; with_reducible rfl)) (hS := hHeld) (h := ?_)
 refine tz 5 59 HT_ HW_ (hr := (by rintro w' s0; have q := fun i => blk_cell s0.1 i; go_simp; with_reducible rfl)) (hS := hHeld) (h := ?_)
 refine join_ (σ := Nat × Nat) 2 #[true, true, true, true, true, true, true, true, false, false] (fun s => [(13, .pointer (some ⟨s.1, 0, none⟩)), (14, .pointer (some ⟨s.2, 0, none⟩))]) (fun s w' => w'.heap[s.1]? = some (.cells #[.int .i64 0, .int .i64 0] 28 (0, 0)) ∧ w'.heap[s.2]? = some (.cells #[.int .i64 0, .int .i64 0] 28 (0, 0)) ∧ s.1 ≠ s.2 ∧ w.heap.size < s.1 ∧ w.heap.size < s.2 ∧ (w.heap.size + 2 < s.1 ∧ w.heap.size + 2 < s.2 ∧ w2.heap.size ≠ s.1 ∧ w2.heap.size ≠ s.2) ∧ (fun w' => w'.heap[w.heap.size]? = some (.cells (nodeA ⟨3, f1, ⟨⟨a0, a1⟩, a2, a3⟩, ⟨⟨b0, b1⟩, b2, b3⟩, f4, []⟩ A c) 33 (0, 0)) ∧ w'.heap[w.heap.size + 2]? = some (.cells (nodeA zeroN none 0) 33 (0, 0)) ∧ w'.heap[w2.heap.size]? = some (.cells #[.int .i64 t', .int .i64 l', .int .i64 o', .int .i64 r'] 64 (0, 0)) ∧ Below w.heap.size w w') w') ?hcont ?orders
 case orders =>
  intro hcont
  generalize hww : World.drew _ = wd at hHeld ⊢
  clear hww
  have hz2 := blk_lt hHeld.2.1
  have hzq := blk_lt hHeld.2.2.1
  refine two_ (i := 6) (j := 7) (Ni := some 13) (Nj := some 14) #[true, true, true, true, true, true, true, false, false, false] #[true, true, true, true, true, true, false, true, false, false] rfl rfl rfl rfl (two_of HT_.out (by kernel_rfl)) (by decide) (by decide) (fun K hK => ?_) (fun K hK => ?_)
  ·refine value_ (v := .pointer (some ⟨wd.heap.size, 0, none⟩)) (w1 := wd.alloc (.cells #[.int .i64 0, .int .i64 0] 28)) (by rfl) rfl (by first | (go_simp; done) | (go_simp; rfl)) ?_
   refine hK.out _ _ ⟨blk_alloc hHeld.1 _, blk_alloc hHeld.2.1 _, blk_alloc hHeld.2.2.1 _, below_alloc hHeld.2.2.2 _⟩ (fun hHeld => ?_)
   clear hK K
   refine nz 13 ?_
   refine one_ (i := 7) (N := some 14) #[true, true, true, true, true, true, true, true, false, false] rfl rfl (one_of HT_.out (by kernel_rfl)) (by decide) (fun K hK => ?_)
   have hx1 := newBlk wd (.cells #[.int .i64 0, .int .i64 0] 28)
   have hs1 : (wd.alloc (.cells #[.int .i64 0, .int .i64 0] 28)).heap.size = wd.heap.size + 1 := by simp
   refine value_ (v := .pointer (some ⟨wd.heap.size + 1, 0, none⟩)) (w1 := (wd.alloc (.cells #[.int .i64 0, .int .i64 0] 28)).alloc (.cells #[.int .i64 0, .int .i64 0] 28)) (by rfl) rfl (by first | (go_simp; done) | (go_simp; rfl)) ?_
   refine hK.out _ _ ⟨blk_alloc hHeld.1 _, blk_alloc hHeld.2.1 _, blk_alloc hHeld.2.2.1 _, below_alloc hHeld.2.2.2 _⟩ (fun hHeld => ?_)
   clear hK K
   refine norm_ ?_ (hcont (wd.heap.size, wd.heap.size + 1) _ ⟨blk_alloc hx1 _, newBlk2 wd _ _, by omega, by omega, by omega, ⟨by omega, by omega, by omega, by omega⟩, hHeld⟩)
   ·simp only [putAll, Act.put, List.setIfInBounds_toArray, List.set_cons_zero, List.set_cons_succ]
  ·refine value_ (v := .pointer (some ⟨wd.heap.size, 0, none⟩)) (w1 := wd.alloc (.cells #[.int .i64 0, .int .i64 0] 28)) (by rfl) rfl (by first | (go_simp; done) | (go_simp; rfl)) ?_
   refine hK.out _ _ ⟨blk_alloc hHeld.1 _, blk_alloc hHeld.2.1 _, blk_alloc hHeld.2.2.1 _, below_alloc hHeld.2.2.2 _⟩ (fun hHeld => ?_)
   clear hK K
   refine nz 14 ?_
   refine one_ (i := 6) (N := some 13) #[true, true, true, true, true, true, true, true, false, false] rfl rfl (one_of HT_.out (by kernel_rfl)) (by decide) (fun K hK => ?_)
   have hx1 := newBlk wd (.cells #[.int .i64 0, .int .i64 0] 28)
   have hs1 : (wd.alloc (.cells #[.int .i64 0, .int .i64 0] 28)).heap.size = wd.heap.size + 1 := by simp
   refine value_ (v := .pointer (some ⟨wd.heap.size + 1, 0, none⟩)) (w1 := (wd.alloc (.cells #[.int .i64 0, .int .i64 0] 28)).alloc (.cells #[.int .i64 0, .int .i64 0] 28)) (by rfl) rfl (by first | (go_simp; done) | (go_simp; rfl)) ?_
   refine hK.out _ _ ⟨blk_alloc hHeld.1 _, blk_alloc hHeld.2.1 _, blk_alloc hHeld.2.2.1 _, below_alloc hHeld.2.2.2 _⟩ (fun hHeld => ?_)
   clear hK K
   refine norm_ ?_ (hcont (wd.heap.size + 1, wd.heap.size) _ ⟨newBlk2 wd _ _, blk_alloc hx1 _, by omega, by omega, by omega, ⟨by omega, by omega, by omega, by omega⟩, hHeld⟩)
   ·simp only [putAll, Act.put, List.setIfInBounds_toArray, List.set_cons_zero, List.set_cons_succ]
 case hcont =>
  rintro ⟨ga, gb⟩ wj ⟨PA, PB, hab, hna, hnb, ⟨hoa, hob, hqa, hqb⟩, hHeld⟩
  simp only at PA PB hab hna hnb hoa hob hqa hqb
  refine norm_ (a' := ?_) ?_ ?_
  rotate_left
  ·simp only [putAll, Act.put, List.setIfInBounds_toArray, List.set_cons_zero, List.set_cons_succ]
   rfl
  have HPA := Aside0.mk PA
  have HPB := Aside0.mk PB
  clear PA PB
  refine one_ (i := 8) (N := none) #[true, true, true, true, true, true, true, true, true, false] rfl rfl (one_of HT_.out (by kernel_rfl)) (by decide) (fun K hK => ?_)
  refine skip_ (by rfl) rfl (rowSkip (ty := 28) (x := .tmp 13) (y := .tmp 56) (g := ga) (cs := #[.int .i64 a0, .int .i64 a1]) rfl rfl rfl HPA.out (by kernel_rfl) rfl rfl) ?_
  refine hK.out _ _ ⟨rowOther _ hHeld.1 (by omega), rowOther _ hHeld.2.1 (by omega), rowOther _ hHeld.2.2.1 hqa, rowBelow hHeld.2.2.2 (by omega) _⟩ (fun hHeld => ?_)
  clear hK K
  have HQA := Aside0.mk (setRow_heap _ _ _ #[.int .i64 a0, .int .i64 a1] _ _ HPA.out)
  have HPB2 := Aside0.mk (rowOther #[.int .i64 a0, .int .i64 a1] HPB.out (fun he => hab he.symm))
  clear HPA HPB
  have HPB := HPB2
  clear HPB2
  refine one_ (i := 9) (N := none) #[true, true, true, true, true, true, true, true, true, true] rfl rfl (one_of HT_.out (by kernel_rfl)) (by decide) (fun K hK => ?_)
  refine skip_ (by rfl) rfl (rowSkip (ty := 28) (x := .tmp 14) (y := .tmp 59) (g := gb) (cs := #[.int .i64 b0, .int .i64 b1]) rfl rfl rfl HPB.out (by kernel_rfl) rfl rfl) ?_
  refine hK.out _ _ ⟨rowOther _ hHeld.1 (by omega), rowOther _ hHeld.2.1 (by omega), rowOther _ hHeld.2.2.1 hqb, rowBelow hHeld.2.2.2 (by omega) _⟩ (fun hHeld => ?_)
  clear hK K
  have HQB := Aside0.mk (setRow_heap _ _ _ #[.int .i64 b0, .int .i64 b1] _ _ HPB.out)
  have HQA2 := Aside0.mk (rowOther #[.int .i64 b0, .int .i64 b1] HQA.out hab)
  clear HQA HPB
  have HQA := HQA2
  clear HQA2
  refine done_ (done_of HT_.out (by kernel_rfl)) ?_
  generalize hgw : World.setRow _ gb _ = wz at hHeld HQA HQB ⊢
  clear hgw
  have BN := Aside0.mk hHeld.1
  have BO := Aside0.mk hHeld.2.1
  have BQ := Aside0.mk hHeld.2.2.1
  have HBz := Aside0.mk hHeld.2.2.2
  clear hHeld
  have h2 := fun i => blk_cell BN.out i
  have ha := fun i => blk_cell HQA.out i
  have hbb := fun i => blk_cell HQB.out i
  have hq := fun i => blk_cell BQ.out i
  go_wp2_with (first
   | (go_at_call 103; (with_reducible refine (HM1.out _).mono ?_); rintro e w4 ⟨rfl, hb⟩; have HB_1 := Aside0.mk (below_step HBz.out hb); have n_1 := Aside0.mk (blk_below BN.out hb); have o_1 := Aside0.mk (blk_below BO.out hb); have q_1 := Aside0.mk (blk_below BQ.out hb); have a_1 := Aside0.mk (blk_below HQA.out hb); have b_1 := Aside0.mk (blk_below HQB.out hb); clear hb HBz BN BO BQ HQA HQB h2 ha hbb hq)
   | ((with_reducible refine gate_store (t := 3) (p := 74) (v := .tmp 70) rfl ?_); refine wpMidSt rfl 3 (.tmp 74) (.tmp 70) rfl w.heap.size 6 _ ([.int .i64 m1]) rfl rfl rfl _ (nodeA ⟨3, f1, ⟨⟨a0, a1⟩, a2, a3⟩, ⟨⟨b0, b1⟩, b2, b3⟩, f4, []⟩ A c) (nodeA ⟨3, f1, ⟨⟨m1, a1⟩, a2, a3⟩, ⟨⟨b0, b1⟩, b2, b3⟩, f4, []⟩ A c) (n_1.out) (by kernel_rfl) rfl rfl rfl ?_; have HB_2 := Aside0.mk (rowBelow HB_1.out (Nat.le_refl _) (nodeA ⟨3, f1, ⟨⟨m1, a1⟩, a2, a3⟩, ⟨⟨b0, b1⟩, b2, b3⟩, f4, []⟩ A c)); have n_2 := Aside0.mk (setRow_heap _ _ _ (nodeA ⟨3, f1, ⟨⟨m1, a1⟩, a2, a3⟩, ⟨⟨b0, b1⟩, b2, b3⟩, f4, []⟩ A c) _ _ n_1.out); have o_2 := Aside0.mk (rowOther (g := w.heap.size) (nodeA ⟨3, f1, ⟨⟨m1, a1⟩, a2, a3⟩, ⟨⟨b0, b1⟩, b2, b3⟩, f4, []⟩ A c) o_1.out (by omega)); have q_2 := Aside0.mk (rowOther (g := w.heap.size) (nodeA ⟨3, f1, ⟨⟨m1, a1⟩, a2, a3⟩, ⟨⟨b0, b1⟩, b2, b3⟩, f4, []⟩ A c) q_1.out (fun he => by have := Nn_q.out; omega)); have a_2 := Aside0.mk (rowOther (g := w.heap.size) (nodeA ⟨3, f1, ⟨⟨m1, a1⟩, a2, a3⟩, ⟨⟨b0, b1⟩, b2, b3⟩, f4, []⟩ A c) a_1.out (by omega)); have b_2 := Aside0.mk (rowOther (g := w.heap.size) (nodeA ⟨3, f1, ⟨⟨m1, a1⟩, a2, a3⟩, ⟨⟨b0, b1⟩, b2, b3⟩, f4, []⟩ A c) b_1.out (by omega)); clear HB_1 n_1 o_1 q_1 a_1 b_1)
   | ((with_reducible refine gate_store (t := 3) (p := 77) (v := .tmp 71) rfl ?_); refine wpMidSt rfl 3 (.tmp 77) (.tmp 71) rfl w.heap.size 10 _ ([.int .i64 m2]) rfl rfl rfl _ (nodeA ⟨3, f1, ⟨⟨m1, a1⟩, a2, a3⟩, ⟨⟨b0, b1⟩, b2, b3⟩, f4, []⟩ A c) (nodeA ⟨3, f1, ⟨⟨m1, a1⟩, a2, a3⟩, ⟨⟨m2, b1⟩, b2, b3⟩, f4, []⟩ A c) (n_2.out) (by kernel_rfl) rfl rfl rfl ?_; have HB_3 := Aside0.mk (rowBelow HB_2.out (Nat.le_refl _) (nodeA ⟨3, f1, ⟨⟨m1, a1⟩, a2, a3⟩, ⟨⟨m2, b1⟩, b2, b3⟩, f4, []⟩ A c)); have n_3 := Aside0.mk (setRow_heap _ _ _ (nodeA ⟨3, f1, ⟨⟨m1, a1⟩, a2, a3⟩, ⟨⟨m2, b1⟩, b2, b3⟩, f4, []⟩ A c) _ _ n_2.out); have o_3 := Aside0.mk (rowOther (g := w.heap.size) (nodeA ⟨3, f1, ⟨⟨m1, a1⟩, a2, a3⟩, ⟨⟨m2, b1⟩, b2, b3⟩, f4, []⟩ A c) o_2.out (by omega)); have q_3 := Aside0.mk (rowOther (g := w.heap.size) (nodeA ⟨3, f1, ⟨⟨m1, a1⟩, a2, a3⟩, ⟨⟨m2, b1⟩, b2, b3⟩, f4, []⟩ A c) q_2.out (fun he => by have := Nn_q.out; omega)); have a_3 := Aside0.mk (rowOther (g := w.heap.size) (nodeA ⟨3, f1, ⟨⟨m1, a1⟩, a2, a3⟩, ⟨⟨m2, b1⟩, b2, b3⟩, f4, []⟩ A c) a_2.out (by omega)); have b_3 := Aside0.mk (rowOther (g := w.heap.size) (nodeA ⟨3, f1, ⟨⟨m1, a1⟩, a2, a3⟩, ⟨⟨m2, b1⟩, b2, b3⟩, f4, []⟩ A c) b_2.out (by omega)); clear HB_2 n_2 o_2 q_2 a_2 b_2; have h_n := fun i => blk_cell n_3.out i; have h_a := fun i => blk_cell a_3.out i; have h_b := fun i => blk_cell b_3.out i; have h_q := fun i => blk_cell q_3.out i)
   | (go_at_call 103; (with_reducible refine (HM2.out _).mono ?_); rintro e w5 ⟨rfl, hb⟩; have HB_4 := Aside0.mk (below_step HB_3.out hb); have n_4 := Aside0.mk (blk_below n_3.out hb); have o_4 := Aside0.mk (blk_below o_3.out hb); have q_4 := Aside0.mk (blk_below q_3.out hb); have a_4 := Aside0.mk (blk_below a_3.out hb); have b_4 := Aside0.mk (blk_below b_3.out hb); clear hb HB_3 n_3 o_3 q_3 a_3 b_3 h_n h_a h_b h_q)
   | ((with_reducible refine gate_store (t := 3) (p := 92) (v := .tmp 88) rfl ?_); refine wpMidSt rfl 3 (.tmp 92) (.tmp 88) rfl w.heap.size 7 _ ([.int .i64 m3]) rfl rfl rfl _ (nodeA ⟨3, f1, ⟨⟨m1, a1⟩, a2, a3⟩, ⟨⟨m2, b1⟩, b2, b3⟩, f4, []⟩ A c) (nodeA ⟨3, f1, ⟨⟨m1, m3⟩, a2, a3⟩, ⟨⟨m2, b1⟩, b2, b3⟩, f4, []⟩ A c) (n_4.out) (by kernel_rfl) rfl rfl rfl ?_; have HB_5 := Aside0.mk (rowBelow HB_4.out (Nat.le_refl _) (nodeA ⟨3, f1, ⟨⟨m1, m3⟩, a2, a3⟩, ⟨⟨m2, b1⟩, b2, b3⟩, f4, []⟩ A c)); have n_5 := Aside0.mk (setRow_heap _ _ _ (nodeA ⟨3, f1, ⟨⟨m1, m3⟩, a2, a3⟩, ⟨⟨m2, b1⟩, b2, b3⟩, f4, []⟩ A c) _ _ n_4.out); have o_5 := Aside0.mk (rowOther (g := w.heap.size) (nodeA ⟨3, f1, ⟨⟨m1, m3⟩, a2, a3⟩, ⟨⟨m2, b1⟩, b2, b3⟩, f4, []⟩ A c) o_4.out (by omega)); have q_5 := Aside0.mk (rowOther (g := w.heap.size) (nodeA ⟨3, f1, ⟨⟨m1, m3⟩, a2, a3⟩, ⟨⟨m2, b1⟩, b2, b3⟩, f4, []⟩ A c) q_4.out (fun he => by have := Nn_q.out; omega)); have a_5 := Aside0.mk (rowOther (g := w.heap.size) (nodeA ⟨3, f1, ⟨⟨m1, m3⟩, a2, a3⟩, ⟨⟨m2, b1⟩, b2, b3⟩, f4, []⟩ A c) a_4.out (by omega)); have b_5 := Aside0.mk (rowOther (g := w.heap.size) (nodeA ⟨3, f1, ⟨⟨m1, m3⟩, a2, a3⟩, ⟨⟨m2, b1⟩, b2, b3⟩, f4, []⟩ A c) b_4.out (by omega)); clear HB_4 n_4 o_4 q_4 a_4 b_4)
   | ((with_reducible refine gate_store (t := 3) (p := 95) (v := .tmp 89) rfl ?_); refine wpMidSt rfl 3 (.tmp 95) (.tmp 89) rfl w.heap.size 11 _ ([.int .i64 m4]) rfl rfl rfl _ (nodeA ⟨3, f1, ⟨⟨m1, m3⟩, a2, a3⟩, ⟨⟨m2, b1⟩, b2, b3⟩, f4, []⟩ A c) (nodeA ⟨3, f1, ⟨⟨m1, m3⟩, a2, a3⟩, ⟨⟨m2, m4⟩, b2, b3⟩, f4, []⟩ A c) (n_5.out) (by kernel_rfl) rfl rfl rfl ?_; have HB_6 := Aside0.mk (rowBelow HB_5.out (Nat.le_refl _) (nodeA ⟨3, f1, ⟨⟨m1, m3⟩, a2, a3⟩, ⟨⟨m2, m4⟩, b2, b3⟩, f4, []⟩ A c)); have n_6 := Aside0.mk (setRow_heap _ _ _ (nodeA ⟨3, f1, ⟨⟨m1, m3⟩, a2, a3⟩, ⟨⟨m2, m4⟩, b2, b3⟩, f4, []⟩ A c) _ _ n_5.out); have o_6 := Aside0.mk (rowOther (g := w.heap.size) (nodeA ⟨3, f1, ⟨⟨m1, m3⟩, a2, a3⟩, ⟨⟨m2, m4⟩, b2, b3⟩, f4, []⟩ A c) o_5.out (by omega)); have q_6 := Aside0.mk (rowOther (g := w.heap.size) (nodeA ⟨3, f1, ⟨⟨m1, m3⟩, a2, a3⟩, ⟨⟨m2, m4⟩, b2, b3⟩, f4, []⟩ A c) q_5.out (fun he => by have := Nn_q.out; omega)); have a_6 := Aside0.mk (rowOther (g := w.heap.size) (nodeA ⟨3, f1, ⟨⟨m1, m3⟩, a2, a3⟩, ⟨⟨m2, m4⟩, b2, b3⟩, f4, []⟩ A c) a_5.out (by omega)); have b_6 := Aside0.mk (rowOther (g := w.heap.size) (nodeA ⟨3, f1, ⟨⟨m1, m3⟩, a2, a3⟩, ⟨⟨m2, m4⟩, b2, b3⟩, f4, []⟩ A c) b_5.out (by omega)); clear HB_5 n_5 o_5 q_5 a_5 b_5)
   | ((with_reducible refine gate_dst (N := 96) rfl ?_); refine wpPartLd 96 rfl rfl 33 (.tmp 2) rfl _ rfl _ (nodeA ⟨3, f1, ⟨⟨m1, m3⟩, a2, a3⟩, ⟨⟨m2, m4⟩, b2, b3⟩, f4, []⟩ A c) [] (n_6.out) rfl Tryz.underlying33 rfl (by kernel_rfl) ?_)
   | ((with_reducible refine gate_store (t := 33) (p := 4) (v := .tmp 96) rfl ?_); refine wpRowSt rfl 33 (.tmp 4) (.tmp 96) rfl ((w.heap.size + 2)) (nodeA ⟨3, f1, ⟨⟨m1, m3⟩, a2, a3⟩, ⟨⟨m2, m4⟩, b2, b3⟩, f4, []⟩ A c) rfl rfl 33 _ (o_6.out) (by kernel_rfl) rfl rfl ?_))
  refine bodyPost_ret (results_cell_row rfl _ _ (w.heap.size + 2) 33 (nodeA ⟨3, f1, ⟨⟨m1, m3⟩, a2, a3⟩, ⟨⟨m2, m4⟩, b2, b3⟩, f4, []⟩ A c) (0, 0) _ rfl (setRow_heap _ _ _ _ _ _ o_6.out) Tryz.underlying33 rfl (by kernel_rfl)) rfl ?_
  exact ⟨A, c, rfl, kidsF_nil _ _ _ _, rowBelow HB_6.out (by omega) _⟩
end Go.Proofs.YthnldbclbfpojaaGreatDoor.Pr
end
