/-
  Lemmas for the law LexScansLexPairs.
-/
import Derived.Test.YtmppnobldhhpjaaGreatDoorSLexScansLexPairs7
import Derived.Test.YtmppnobldhhpjaaGreatDoorSLexScansLexPairs13
import Derived.Test.YtmppnobldhhpjaaGreatDoorSLexScansLexPairs9
import Derived.Below
import Derived.Laws.NewBlocks
import Derived.LoopTactic
import Derived.WalkKit
section
namespace Go.Proofs.YtmppnobldhhpjaaGreatDoor.Pr
set_option linter.unusedVariables false
set_option linter.unusedSimpArgs false
open Go.RowKit Go.Proofs.YtmppnobldhhpjaaGreatDoorW.PrintWords Go.Proofs.YtmppnobldhhpjaaGreatDoorW.PrintMore
def nmI : Nat → ByteArray
  | 0 => nm0
  | 1 => nm1
  | 2 => nm2
  | 3 => nm3
  | 4 => nm4
  | 5 => nm5
  | 6 => nm6
  | _ => nm7
def nameOf (s : ByteArray) : Option Int := if s = nm1 then some 1 else if s = nm2 then some 2 else if s = nm3 then some 3 else if s = nm4 then some 4 else if s = nm5 then some 5 else if s = nm6 then some 6 else if s = nm7 then some 7 else none
theorem toL (a : ByteArray) : a.toList = a.data.toList := by
  obtain ⟨⟨l⟩⟩ := a
  exact ByteArray.toList_eq _
theorem nm_of {l : List UInt8} {a : ByteArray} (h : (l == a.toList) = true) : (⟨l.toArray⟩ : ByteArray) = a := by
  rw [toL, beq_iff_eq] at h
  obtain ⟨⟨m⟩⟩ := a
  rw [h]
theorem nm_no {l : List UInt8} {a : ByteArray} (h : (l == a.toList) = false) : ¬ (⟨l.toArray⟩ : ByteArray) = a := by
  rw [toL, beq_eq_false_iff_ne] at h
  rintro rfl
  exact h rfl
theorem not_nil {a0 : ByteArray} (h : ¬ a0 = nm0) : a0.toList.isEmpty = false := by
  cases hh : a0.toList.isEmpty with
  | false => rfl
  | true =>
    refine absurd ?_ h
    rw [toL, List.isEmpty_iff] at hh
    obtain ⟨⟨m⟩⟩ := a0
    obtain rfl : m = [] := hh
    rfl
theorem nm0_ne {a0 : ByteArray} (h : a0.toList.isEmpty = false) : ¬ nmI 0 = a0 := by
  rintro rfl
  rw [toL] at h
  cases h
theorem more {a0 : ByteArray} {i : Nat} (h : ∀ j : Nat, j < i → ¬ nmI j = a0) (g : ¬ nmI i = a0) : ∀ j : Nat, j < i + 1 → ¬ nmI j = a0 := fun j hj => by
  by_cases e : j = i
  · subst e; exact g
  · exact h j (by omega)
theorem nameOf_none {a0 : ByteArray} (h : ∀ j : Nat, j < 8 → ¬ nmI j = a0) : nameOf a0 = none := by
  unfold nameOf
  rw [if_neg fun e => h 1 (by omega) e.symm, if_neg fun e => h 2 (by omega) e.symm, if_neg fun e => h 3 (by omega) e.symm, if_neg fun e => h 4 (by omega) e.symm, if_neg fun e => h 5 (by omega) e.symm, if_neg fun e => h 6 (by omega) e.symm, if_neg fun e => h 7 (by omega) e.symm]
theorem nameOf_some {a0 : ByteArray} (i : Nat) (h1 : 1 ≤ i) (h7 : i ≤ 7) (h : ∀ j : Nat, j < i → ¬ nmI j = a0) (e : nmI i = a0) : nameOf a0 = some (i : Int) := by
  subst e
  have hc : i = 1 ∨ i = 2 ∨ i = 3 ∨ i = 4 ∨ i = 5 ∨ i = 6 ∨ i = 7 := by omega
  rcases hc with rfl | rfl | rfl | rfl | rfl | rfl | rfl <;> (simp only [nmI]; decide)
def value_Read.f (k : Nat) (a0 : ByteArray) : Option (Int × Int × ByteArray × Bool × Int × Int) := if a0 = nm0 then some (0, 0, (⟨#[]⟩ : ByteArray), false, 0, 0) else (num_Parse.f k a0).bind fun bt => if bt.2 = 0 then some (1, bt.1, (⟨#[]⟩ : ByteArray), false, 0, 0) else (value_truth.f a0).bind fun tt => if tt.2 = true then some (3, 0, (⟨#[]⟩ : ByteArray), tt.1, 0, 0) else match nameOf a0 with
  | some i => some (4, 0, (⟨#[]⟩ : ByteArray), false, i, 0)
  | none => if (a0.size : Int) ≤ 255 then some (2, 0, a0, false, 0, 0) else some (0, 0, (⟨#[]⟩ : ByteArray), false, 0, 7)
theorem value_Read_nil (w : World) :
    Calls Tryz.prog 47 #[.string nm0] w fun e w' => e = .returned (.tuple #[.agg #[.int .i64 0, .int .i64 0, .string (⟨#[]⟩ : ByteArray), .bool false, .int .i64 0], .int .i64 0]) ∧ Below w.heap.size w w' := by
  unfold nm0
  go_enter Tryz.func47, Tryz.ntmps47
  go_wp2
  exact bodyPost_ret (v := .tuple #[.agg #[.int .i64 0, .int .i64 0, .string (⟨#[]⟩ : ByteArray), .bool false, .int .i64 0], .int .i64 0]) (by simp [results, Tryz.results47, go_sem]) rfl ⟨rfl, below_alloc (Below.refl _ _) _⟩
set_option maxHeartbeats 4000000 in
set_option maxRecDepth 100000 in
theorem value_Read_num (a0 : ByteArray) (k : Nat) (n : Int) (w : World) (hn1 : a0.toList.isEmpty = false) (h : num_Parse.f k a0 = some (n, 0)) :
    Calls Tryz.prog 47 #[.string a0] w fun e w' => e = .returned (.tuple #[.agg #[.int .i64 1, .int .i64 n, .string (⟨#[]⟩ : ByteArray), .bool false, .int .i64 0], .int .i64 0]) ∧ Below w.heap.size w w' := by
  have HP := Aside0.mk h
  clear h
  go_enter Tryz.func47, Tryz.ntmps47
  go_wp2_with (go_at_call 40; (with_reducible refine (num_Parse.calls _ _ _ _ _ HP.out).mono ?_); rintro e w1 ⟨rfl, hb⟩; have c0 := boxed_cell hb 0 rfl; have c1 := boxed_cell hb 1 rfl; have c2 := boxed_cell hb 2 rfl; have c3 := boxed_cell hb 3 rfl; have c4 := boxed_cell hb 4 rfl; have f0 := boxed_frozen hb 0; have f1 := boxed_frozen hb 1; have f2 := boxed_frozen hb 2; have f3 := boxed_frozen hb 3; have f4 := boxed_frozen hb 4; have HB := Aside0.mk hb; clear hb)
  refine bodyPost_ret (v := .tuple #[.agg #[.int .i64 1, .int .i64 n, .string (⟨#[]⟩ : ByteArray), .bool false, .int .i64 0], .int .i64 0]) ?_ rfl ⟨rfl, below_set (below_set (below_set (below_set (below_set (boxed_below HB.out) (Nat.le_refl _)) (Nat.le_refl _)) (Nat.le_refl _)) (Nat.le_refl _)) (Nat.le_refl _)⟩
  simp [results, Tryz.results47, go_sem, c0, c1, c2, c3, c4]
set_option maxHeartbeats 4000000 in
set_option maxRecDepth 100000 in
theorem value_Read_bool (a0 : ByteArray) (k : Nat) (n e : Int) (b : Bool) (w : World) (hn1 : a0.toList.isEmpty = false) (h : num_Parse.f k a0 = some (n, e)) (he : (e == 0) = false) (ht : value_truth.f a0 = some (b, true)) :
    Calls Tryz.prog 47 #[.string a0] w fun e w' => e = .returned (.tuple #[.agg #[.int .i64 3, .int .i64 0, .string (⟨#[]⟩ : ByteArray), .bool b, .int .i64 0], .int .i64 0]) ∧ Below w.heap.size w w' := by
  have HP := Aside0.mk h
  have HT := Aside0.mk ht
  clear h ht
  go_enter Tryz.func47, Tryz.ntmps47
  go_wp2_with (first
    | (go_at_call 40; (with_reducible refine (num_Parse.calls _ _ _ _ _ HP.out).mono ?_); rintro e w1 ⟨rfl, hb1⟩)
    | (go_at_call 64; (with_reducible refine (value_truth.calls _ _ _ _ HT.out).mono ?_); rintro e w2 ⟨rfl, hb2⟩; have hb := boxed_trans hb1 hb2; have c0 := boxed_cell hb 0 rfl; have c1 := boxed_cell hb 1 rfl; have c2 := boxed_cell hb 2 rfl; have c3 := boxed_cell hb 3 rfl; have c4 := boxed_cell hb 4 rfl; have f0 := boxed_frozen hb 0; have f1 := boxed_frozen hb 1; have f2 := boxed_frozen hb 2; have f3 := boxed_frozen hb 3; have f4 := boxed_frozen hb 4; have HB := Aside0.mk hb; clear hb))
  refine bodyPost_ret (v := .tuple #[.agg #[.int .i64 3, .int .i64 0, .string (⟨#[]⟩ : ByteArray), .bool b, .int .i64 0], .int .i64 0]) ?_ rfl ⟨rfl, below_set (below_set (below_set (below_set (below_set (boxed_below HB.out) (Nat.le_refl _)) (Nat.le_refl _)) (Nat.le_refl _)) (Nat.le_refl _)) (Nat.le_refl _)⟩
  simp [results, Tryz.results47, go_sem, c0, c1, c2, c3, c4]
set_option maxHeartbeats 4000000 in
set_option maxRecDepth 100000 in
theorem value_Read_else (a0 : ByteArray) (k : Nat) (n e : Int) (b : Bool) (w : World) (hn1 : a0.toList.isEmpty = false) (h : num_Parse.f k a0 = some (n, e)) (he : (e == 0) = false) (ht : value_truth.f a0 = some (b, false)) (r : Value) (rc : Int)
    (hi : ∀ i, nameOf a0 = some i → r = .agg #[.int .i64 4, .int .i64 0, .string (⟨#[]⟩ : ByteArray), .bool false, .int .i64 i] ∧ rc = 0)
    (hs : nameOf a0 = none → a0.size ≤ 255 → r = .agg #[.int .i64 2, .int .i64 0, .string a0, .bool false, .int .i64 0] ∧ rc = 0)
    (hl : nameOf a0 = none → ¬ a0.size ≤ 255 → r = .agg #[.int .i64 0, .int .i64 0, .string (⟨#[]⟩ : ByteArray), .bool false, .int .i64 0] ∧ rc = 7) :
    Calls Tryz.prog 47 #[.string a0] w fun e w' => e = .returned (.tuple #[r, .int .i64 rc]) ∧ Below w.heap.size w w' := by
  have HP := Aside0.mk h
  have HT := Aside0.mk ht
  have HI := Aside0.mk hi
  have HS := Aside0.mk hs
  have HL := Aside0.mk hl
  clear h ht hi hs hl
  go_enter Tryz.func47, Tryz.ntmps47
  go_wp2_with (first
    | (go_at_call 40; (with_reducible refine (num_Parse.calls _ _ _ _ _ HP.out).mono ?_); rintro e w1 ⟨rfl, hb1⟩)
    | (go_at_call 64; (with_reducible refine (value_truth.calls _ _ _ _ HT.out).mono ?_); rintro e w2 ⟨rfl, hb2⟩)
    | (go_at_call 62; (with_reducible refine (value_names.calls _).mono ?_); rintro e w3 ⟨rfl, hb3⟩; have hb := boxed_trans (boxed_trans hb1 hb2) hb3; have hlt3 := boxed_size hb; have c0 := boxed_cell hb 0 rfl; have c1 := boxed_cell hb 1 rfl; have c2 := boxed_cell hb 2 rfl; have c3 := boxed_cell hb 3 rfl; have c4 := boxed_cell hb 4 rfl; have f0 := boxed_frozen hb 0; have f1 := boxed_frozen hb 1; have f2 := boxed_frozen hb 2; have f3 := boxed_frozen hb 3; have f4 := boxed_frozen hb 4; have HB := Aside0.mk hb; clear hb hb1 hb2 hb3))
  go_loop [31] (fun v => ∃ i : Nat, i ≤ 8 ∧ v = .int .i64 i ∧ ∀ j : Nat, j < i → ¬ nmI j = a0) (fun v => 8 - (intOf v).toNat)
  case atStart => exact ⟨0, by omega, rfl, fun j hj => by omega⟩
  case round =>
    obtain ⟨i, hi, rfl, hall⟩ := hrel
    have hc : i = 8 ∨ i = 0 ∨ i = 1 ∨ i = 2 ∨ i = 3 ∨ i = 4 ∨ i = 5 ∨ i = 6 ∨ i = 7 := by omega
    rcases hc with rfl | rfl | rfl | rfl | rfl | rfl | rfl | rfl | rfl
    · go_wp2
      · have hz : 255 < (a0.size : Int) := by assumption
        obtain ⟨rfl, rfl⟩ := HL.out (nameOf_none hall) (by omega)
        exact bodyPost_ret (v := .tuple #[.agg #[.int .i64 0, .int .i64 0, .string (⟨#[]⟩ : ByteArray), .bool false, .int .i64 0], .int .i64 7]) (by simp [results, Tryz.results47, go_sem, c0, c1, c2, c3, c4, hlt3, set_size]) rfl ⟨rfl, below_alloc (below_set (below_set (below_set (below_set (below_set (boxed_below HB.out) (Nat.le_refl _)) (Nat.le_refl _)) (Nat.le_refl _)) (Nat.le_refl _)) (Nat.le_refl _)) _⟩
      · have hz : (a0.size : Int) ≤ 255 := by assumption
        obtain ⟨rfl, rfl⟩ := HS.out (nameOf_none hall) (by omega)
        exact bodyPost_ret (v := .tuple #[.agg #[.int .i64 2, .int .i64 0, .string a0, .bool false, .int .i64 0], .int .i64 0]) (by simp [results, Tryz.results47, go_sem, c0, c1, c2, c3, c4, hlt3, set_size]) rfl ⟨rfl, below_alloc (below_set (below_set (below_set (below_set (below_set (boxed_below HB.out) (Nat.le_refl _)) (Nat.le_refl _)) (Nat.le_refl _)) (Nat.le_refl _)) (Nat.le_refl _)) _⟩
    · go_wp2
      exact ⟨⟨1, by omega, rfl, fun j hj => by obtain rfl : j = 0 := by omega
                                               exact nm0_ne hn1⟩, by simp [intOf]⟩
    · go_wp2
      · have hz : ([35, 68, 73, 86, 47, 48, 33] == a0.toList) = true := by assumption
        obtain ⟨rfl, rfl⟩ := HI.out 1 (nameOf_some 1 (by omega) (by omega) hall (nm_of (l := [35, 68, 73, 86, 47, 48, 33]) hz))
        exact bodyPost_ret (v := .tuple #[.agg #[.int .i64 4, .int .i64 0, .string (⟨#[]⟩ : ByteArray), .bool false, .int .i64 1], .int .i64 0]) (by simp [results, Tryz.results47, go_sem, c0, c1, c2, c3, c4, hlt3, set_size]) rfl ⟨rfl, below_alloc (below_set (below_set (below_set (below_set (below_set (boxed_below HB.out) (Nat.le_refl _)) (Nat.le_refl _)) (Nat.le_refl _)) (Nat.le_refl _)) (Nat.le_refl _)) _⟩
      · have hz : ([35, 68, 73, 86, 47, 48, 33] == a0.toList) = false := by assumption
        exact ⟨⟨2, by omega, rfl, more hall (nm_no (l := [35, 68, 73, 86, 47, 48, 33]) hz)⟩, by simp [intOf]⟩
    · go_wp2
      · have hz : ([35, 86, 65, 76, 85, 69, 33] == a0.toList) = true := by assumption
        obtain ⟨rfl, rfl⟩ := HI.out 2 (nameOf_some 2 (by omega) (by omega) hall (nm_of (l := [35, 86, 65, 76, 85, 69, 33]) hz))
        exact bodyPost_ret (v := .tuple #[.agg #[.int .i64 4, .int .i64 0, .string (⟨#[]⟩ : ByteArray), .bool false, .int .i64 2], .int .i64 0]) (by simp [results, Tryz.results47, go_sem, c0, c1, c2, c3, c4, hlt3, set_size]) rfl ⟨rfl, below_alloc (below_set (below_set (below_set (below_set (below_set (boxed_below HB.out) (Nat.le_refl _)) (Nat.le_refl _)) (Nat.le_refl _)) (Nat.le_refl _)) (Nat.le_refl _)) _⟩
      · have hz : ([35, 86, 65, 76, 85, 69, 33] == a0.toList) = false := by assumption
        exact ⟨⟨3, by omega, rfl, more hall (nm_no (l := [35, 86, 65, 76, 85, 69, 33]) hz)⟩, by simp [intOf]⟩
    · go_wp2
      · have hz : ([35, 82, 69, 70, 33] == a0.toList) = true := by assumption
        obtain ⟨rfl, rfl⟩ := HI.out 3 (nameOf_some 3 (by omega) (by omega) hall (nm_of (l := [35, 82, 69, 70, 33]) hz))
        exact bodyPost_ret (v := .tuple #[.agg #[.int .i64 4, .int .i64 0, .string (⟨#[]⟩ : ByteArray), .bool false, .int .i64 3], .int .i64 0]) (by simp [results, Tryz.results47, go_sem, c0, c1, c2, c3, c4, hlt3, set_size]) rfl ⟨rfl, below_alloc (below_set (below_set (below_set (below_set (below_set (boxed_below HB.out) (Nat.le_refl _)) (Nat.le_refl _)) (Nat.le_refl _)) (Nat.le_refl _)) (Nat.le_refl _)) _⟩
      · have hz : ([35, 82, 69, 70, 33] == a0.toList) = false := by assumption
        exact ⟨⟨4, by omega, rfl, more hall (nm_no (l := [35, 82, 69, 70, 33]) hz)⟩, by simp [intOf]⟩
    · go_wp2
      · have hz : ([35, 78, 65, 77, 69, 63] == a0.toList) = true := by assumption
        obtain ⟨rfl, rfl⟩ := HI.out 4 (nameOf_some 4 (by omega) (by omega) hall (nm_of (l := [35, 78, 65, 77, 69, 63]) hz))
        exact bodyPost_ret (v := .tuple #[.agg #[.int .i64 4, .int .i64 0, .string (⟨#[]⟩ : ByteArray), .bool false, .int .i64 4], .int .i64 0]) (by simp [results, Tryz.results47, go_sem, c0, c1, c2, c3, c4, hlt3, set_size]) rfl ⟨rfl, below_alloc (below_set (below_set (below_set (below_set (below_set (boxed_below HB.out) (Nat.le_refl _)) (Nat.le_refl _)) (Nat.le_refl _)) (Nat.le_refl _)) (Nat.le_refl _)) _⟩
      · have hz : ([35, 78, 65, 77, 69, 63] == a0.toList) = false := by assumption
        exact ⟨⟨5, by omega, rfl, more hall (nm_no (l := [35, 78, 65, 77, 69, 63]) hz)⟩, by simp [intOf]⟩
    · go_wp2
      · have hz : ([35, 78, 85, 77, 33] == a0.toList) = true := by assumption
        obtain ⟨rfl, rfl⟩ := HI.out 5 (nameOf_some 5 (by omega) (by omega) hall (nm_of (l := [35, 78, 85, 77, 33]) hz))
        exact bodyPost_ret (v := .tuple #[.agg #[.int .i64 4, .int .i64 0, .string (⟨#[]⟩ : ByteArray), .bool false, .int .i64 5], .int .i64 0]) (by simp [results, Tryz.results47, go_sem, c0, c1, c2, c3, c4, hlt3, set_size]) rfl ⟨rfl, below_alloc (below_set (below_set (below_set (below_set (below_set (boxed_below HB.out) (Nat.le_refl _)) (Nat.le_refl _)) (Nat.le_refl _)) (Nat.le_refl _)) (Nat.le_refl _)) _⟩
      · have hz : ([35, 78, 85, 77, 33] == a0.toList) = false := by assumption
        exact ⟨⟨6, by omega, rfl, more hall (nm_no (l := [35, 78, 85, 77, 33]) hz)⟩, by simp [intOf]⟩
    · go_wp2
      · have hz : ([35, 78, 47, 65] == a0.toList) = true := by assumption
        obtain ⟨rfl, rfl⟩ := HI.out 6 (nameOf_some 6 (by omega) (by omega) hall (nm_of (l := [35, 78, 47, 65]) hz))
        exact bodyPost_ret (v := .tuple #[.agg #[.int .i64 4, .int .i64 0, .string (⟨#[]⟩ : ByteArray), .bool false, .int .i64 6], .int .i64 0]) (by simp [results, Tryz.results47, go_sem, c0, c1, c2, c3, c4, hlt3, set_size]) rfl ⟨rfl, below_alloc (below_set (below_set (below_set (below_set (below_set (boxed_below HB.out) (Nat.le_refl _)) (Nat.le_refl _)) (Nat.le_refl _)) (Nat.le_refl _)) (Nat.le_refl _)) _⟩
      · have hz : ([35, 78, 47, 65] == a0.toList) = false := by assumption
        exact ⟨⟨7, by omega, rfl, more hall (nm_no (l := [35, 78, 47, 65]) hz)⟩, by simp [intOf]⟩
    · go_wp2
      · have hz : ([35, 67, 89, 67, 76, 69, 33] == a0.toList) = true := by assumption
        obtain ⟨rfl, rfl⟩ := HI.out 7 (nameOf_some 7 (by omega) (by omega) hall (nm_of (l := [35, 67, 89, 67, 76, 69, 33]) hz))
        exact bodyPost_ret (v := .tuple #[.agg #[.int .i64 4, .int .i64 0, .string (⟨#[]⟩ : ByteArray), .bool false, .int .i64 7], .int .i64 0]) (by simp [results, Tryz.results47, go_sem, c0, c1, c2, c3, c4, hlt3, set_size]) rfl ⟨rfl, below_alloc (below_set (below_set (below_set (below_set (below_set (boxed_below HB.out) (Nat.le_refl _)) (Nat.le_refl _)) (Nat.le_refl _)) (Nat.le_refl _)) (Nat.le_refl _)) _⟩
      · have hz : ([35, 67, 89, 67, 76, 69, 33] == a0.toList) = false := by assumption
        exact ⟨⟨8, by omega, rfl, more hall (nm_no (l := [35, 67, 89, 67, 76, 69, 33]) hz)⟩, by simp [intOf]⟩
theorem value_Read.calls (k : Nat) (a0 : ByteArray) (r1 : Int) (r2 : Int) (r3 : ByteArray) (r4 : Bool) (r5 : Int) (r6 : Int) (w : World) (h : value_Read.f k a0 = some (r1, r2, r3, r4, r5, r6)) :
    Calls Tryz.prog 47 #[.string a0] w fun e w' => e = .returned (.tuple #[.agg #[.int .i64 r1, .int .i64 r2, .string r3, .bool r4, .int .i64 r5], .int .i64 r6]) ∧ Below w.heap.size w w' := by
  unfold value_Read.f at h
  by_cases h0 : a0 = nm0
  · rw [if_pos h0] at h
    simp only [Option.some.injEq, Prod.mk.injEq] at h
    obtain ⟨rfl, rfl, rfl, rfl, rfl, rfl⟩ := h
    subst h0
    exact value_Read_nil w
  · rw [if_neg h0] at h
    have hn1 := not_nil h0
    obtain ⟨⟨n, e⟩, hp, h⟩ := Option.bind_eq_some_iff.mp h
    by_cases he : e = 0
    · subst he
      rw [if_pos rfl] at h
      simp only [Option.some.injEq, Prod.mk.injEq] at h
      obtain ⟨rfl, rfl, rfl, rfl, rfl, rfl⟩ := h
      exact value_Read_num a0 k _ w hn1 hp
    · rw [if_neg he] at h
      have he' : (e == 0) = false := beq_eq_false_iff_ne.mpr he
      obtain ⟨⟨b, t⟩, ht, h⟩ := Option.bind_eq_some_iff.mp h
      cases t with
      | true =>
        rw [if_pos rfl] at h
        simp only [Option.some.injEq, Prod.mk.injEq] at h
        obtain ⟨rfl, rfl, rfl, rfl, rfl, rfl⟩ := h
        exact value_Read_bool a0 k n e _ w hn1 hp he' ht
      | false =>
        rw [if_neg (show ¬ (false = true) by decide)] at h
        refine value_Read_else a0 k n e b w hn1 hp he' ht _ _ ?_ ?_ ?_
        · intro i hi
          rw [hi] at h
          simp only [Option.some.injEq, Prod.mk.injEq] at h
          obtain ⟨rfl, rfl, rfl, rfl, rfl, rfl⟩ := h
          exact ⟨rfl, rfl⟩
        · intro hi hs
          rw [hi] at h
          simp only at h
          rw [if_pos (by omega)] at h
          simp only [Option.some.injEq, Prod.mk.injEq] at h
          obtain ⟨rfl, rfl, rfl, rfl, rfl, rfl⟩ := h
          exact ⟨rfl, rfl⟩
        · intro hi hs
          rw [hi] at h
          simp only at h
          rw [if_neg (by omega)] at h
          simp only [Option.some.injEq, Prod.mk.injEq] at h
          obtain ⟨rfl, rfl, rfl, rfl, rfl, rfl⟩ := h
          exact ⟨rfl, rfl⟩
end Go.Proofs.YtmppnobldhhpjaaGreatDoor.Pr
end
