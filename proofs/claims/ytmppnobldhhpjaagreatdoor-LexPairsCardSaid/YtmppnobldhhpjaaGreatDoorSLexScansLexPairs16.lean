/-
  Lemmas for the law LexScansLexPairs.
-/
import Derived.Test.YtmppnobldhhpjaaGreatDoorSLexScansLexPairs8
import Derived.Test.YtmppnobldhhpjaaGreatDoorSLexScansLexPairs13
import Derived.Test.YtmppnobldhhpjaaGreatDoorSLexScansLexPairs12
import Derived.Test.YtmppnobldhhpjaaGreatDoorSLexScansLexPairs10
import Derived.Test.YtmppnobldhhpjaaGreatDoorSLexScansLexPairs15
import Derived.Test.YtmppnobldhhpjaaGreatDoorSLexScansLexPairs14
section
namespace Go.Proofs.YtmppnobldhhpjaaGreatDoor.Pr
set_option linter.unusedVariables false
set_option linter.unusedSimpArgs false
open Go.RowKit Go.Proofs.YtmppnobldhhpjaaGreatDoorW.PrintWords Go.Proofs.YtmppnobldhhpjaaGreatDoorW.PrintMore
theorem bl_sz (s : List UInt8) : ((bl s).size : Int) = (s.length : Int) := by rw [bl_size]
def foldL (l : List UInt8) : List UInt8 := l.map up
theorem value_Fold_eq (l : List UInt8) (h : l.length ≤ 140737488351232) : value_Fold.f (bl l) = some (bl (foldL l)) := by
  unfold value_Fold.f
  rw [if_pos (by rw [bl_size]; exact h)]
  unfold foldB foldL
  rw [bl_data]; rfl
theorem ref_Fold_eq (l : List UInt8) (h : l.length ≤ 140737488351232) : foolscapref04_Fold.f (bl l) = some (bl (foldL l)) := value_Fold_eq l h
def TRUEL : List UInt8 := [84, 82, 85, 69]
def FALSEL : List UInt8 := [70, 65, 76, 83, 69]
def truP (s : List UInt8) : Bool × Bool := (foldL s == TRUEL, foldL s == TRUEL || foldL s == FALSEL)
theorem value_truth_eq (l : List UInt8) (h : l.length ≤ 140737488351232) : value_truth.f (bl l) = some (truP l) := by
  unfold value_truth.f truP TRUEL FALSEL
  rw [value_Fold_eq l h, Option.bind_some, bl_toList]
  by_cases c : foldL l = [84, 82, 85, 69]
  · rw [if_pos c]; simp [c]
  · rw [if_neg c]; simp [c]
end Go.Proofs.YtmppnobldhhpjaaGreatDoor.Pr
end
section
namespace Go.Proofs.YtmppnobldhhpjaaGreatDoor.Pr
set_option linter.unusedVariables false
set_option linter.unusedSimpArgs false
open Go.RowKit Go.Proofs.YtmppnobldhhpjaaGreatDoorW.PrintWords Go.Proofs.YtmppnobldhhpjaaGreatDoorW.PrintMore
def nameL (c : Int) : List UInt8 := (nameZ c).data.toList
def readP (s : List UInt8) : Int × Int × List UInt8 × Bool × Int × Int :=
  if s = [] then (0, 0, [], false, 0, 0) else if (numL s).2 = 0 then (1, (numL s).1, [], false, 0, 0) else if (truP s).2 = true then (3, 0, [], (truP s).1, 0, 0) else match nameOf (bl s) with
  | some i => (4, 0, [], false, i, 0)
  | none => if s.length ≤ 255 then (2, 0, s, false, 0, 0) else (0, 0, [], false, 0, 7)
def toB (r : Int × Int × List UInt8 × Bool × Int × Int) : Int × Int × ByteArray × Bool × Int × Int := (r.1, r.2.1, bl r.2.2.1, r.2.2.2.1, r.2.2.2.2.1, r.2.2.2.2.2)
theorem bl_nm0 (s : List UInt8) : (bl s = nm0) = (s = []) := by
  refine propext ⟨fun h => ?_, fun h => by subst h; rfl⟩
  exact bl_inj (a := s) (b := []) h
theorem value_Read_eq (k : Nat) (hk : 1 ≤ k) (s : List UInt8) (hs : s.length ≤ 140737488351232) : value_Read.f k (bl s) = some (toB (readP s)) := by
  unfold value_Read.f readP
  simp only [bl_nm0]
  by_cases c0 : s = []
  · rw [if_pos c0, if_pos c0]; rfl
  rw [if_neg c0, if_neg c0, num_Parse_eq k hk, Option.bind_some]
  by_cases c1 : (numL s).2 = 0
  · rw [if_pos c1, if_pos c1]; rfl
  rw [if_neg c1, if_neg c1, value_truth_eq s hs, Option.bind_some]
  by_cases c2 : (truP s).2 = true
  · rw [if_pos c2, if_pos c2]; rfl
  rw [if_neg c2, if_neg c2]
  cases nameOf (bl s) with
  | some i => rfl
  | none =>
    simp only [bl_sz]
    by_cases c3 : s.length ≤ 255
    · rw [if_pos (by omega), if_pos c3]; rfl
    · rw [if_neg (by omega), if_neg c3]; rfl
def nmsL : List ByteArray := [nm0, nm1, nm2, nm3, nm4, nm5, nm6, nm7]
theorem ref_Names_eq : foolscapref04_Names.f = some nmsL := rfl
end Go.Proofs.YtmppnobldhhpjaaGreatDoor.Pr
end
section
namespace Go.Proofs.YtmppnobldhhpjaaGreatDoor.Pr
set_option linter.unusedVariables false
set_option linter.unusedSimpArgs false
open Go.RowKit Go.Proofs.YtmppnobldhhpjaaGreatDoorW.PrintWords Go.Proofs.YtmppnobldhhpjaaGreatDoorW.PrintMore
abbrev Tk := S45
abbrev Vl := S39
abbrev Ce := S43
def vlZ : Vl := ⟨0, 0, bl [], false, 0⟩
def ceZ : Ce := ⟨⟨0, 0⟩, false, false⟩
def tkZ : Tk := ⟨0, vlZ, ceZ, bl [], 0⟩
def tkV (K n : Int) (s : List UInt8) (b : Bool) (c : Int) : Tk := ⟨1, ⟨K, n, bl s, b, c⟩, ceZ, bl [], 0⟩
def tkC (c : Ce) : Tk := ⟨2, vlZ, c, bl [], 0⟩
def tkN (s : List UInt8) : Tk := ⟨3, vlZ, ceZ, bl s, 0⟩
def tkO (s : List UInt8) : Tk := ⟨4, vlZ, ceZ, bl s, 0⟩
def tkAt (t : Tk) (i : Int) : Tk := ⟨t.f0, t.f1, t.f2, t.f3, i⟩
def ltB (c : UInt8) : Bool := (decide (65 ≤ c.toNat) && decide (c.toNat ≤ 90)) || (decide (97 ≤ c.toNat) && decide (c.toNat ≤ 122))
def nmB (c : UInt8) : Bool := dg c || c == 46
def wdB (c : UInt8) : Bool := ltB c || dg c || c == 36 || c == 46 || c == 95
def numT7 (l : List UInt8) : Tk × Nat × Int :=
  let w := l.takeWhile nmB
  if (numL w).2 = 0 then (tkV 1 (numL w).1 [] false 0, w.length, 0) else (tkZ, 0, (numL w).2)
def unq : List UInt8 → Option (List UInt8 × Nat)
  | [] => none
  | c :: r => if c = 34 then (match r with
    | [] => some ([], 1)
    | d :: q => if d = 34 then (unq q).map (fun x => (34 :: x.1, x.2 + 2)) else some ([], 1)) else (unq r).map (fun x => (c :: x.1, x.2 + 1))
def txtT7 (l : List UInt8) : Tk × Nat × Int :=
  match unq l.tail with
  | none => (tkZ, 0, 5)
  | some (t, n) => if t.length ≤ 255 then (tkV 2 0 t false 0, n + 1, 0) else (tkZ, 0, 7)
def fltT7 (l : List UInt8) : Tk × Nat × Int :=
  match ([1, 2, 3, 4, 5, 6, 7] : List Int).find? (fun i => (nameL i).isPrefixOf l) with
  | none => (tkZ, 0, 5)
  | some i => (tkV 4 0 [] false i, (nameL i).length, 0)
def dolB (l : List UInt8) : Bool := l.head? == some 36
def dolL (l : List UInt8) : List UInt8 := if l.head? = some 36 then l.tail else l
def ltN (c : UInt8) : Nat := if 65 ≤ c.toNat ∧ c.toNat ≤ 90 then c.toNat - 64 else if 97 ≤ c.toNat ∧ c.toNat ≤ 122 then c.toNat - 96 else 0
def colV (l : List UInt8) : Nat := l.foldl (fun n c => 26 * n + ltN c) 0
def colL (l : List UInt8) : Int × Int :=
  if l.length < 1 ∨ 3 < l.length ∨ l.any (fun c => ltN c == 0) = true then (0, 5) else if 16384 < colV l then (0, 11) else ((colV l : Nat), 0)
def celL (w : List UInt8) : Ce × Int :=
  let w1 := dolL w
  let ls := w1.takeWhile ltB
  let w2 := w1.dropWhile ltB
  let w3 := dolL w2
  if (colL ls).2 = 5 ∨ w3.length < 1 ∨ 7 < w3.length ∨ w3.head? = some 48 ∨ w3.all dg = false then (ceZ, 5)
  else if (colL ls).2 ≠ 0 ∨ 1048576 < dval 0 w3 then (ceZ, 11)
  else (⟨⟨(dval 0 w3 : Nat), (colL ls).1⟩, dolB w2, dolB w⟩, 0)
def namB (w : List UInt8) : Bool := decide (1 ≤ w.length) && decide (w.length ≤ 20) && (w.head?.elim false ltB) && w.all (fun c => ltB c || dg c || c == 46 || c == 95)
def wrdT7 (l : List UInt8) : Tk × Nat × Int :=
  let w := l.takeWhile wdB
  if (l.dropWhile wdB).head? = some 40 then (if namB w = true then (tkN (foldL w), w.length, 0) else (tkZ, 0, 5))
  else if (truP w).2 = true then (tkV 3 0 [] (truP w).1 0, w.length, 0)
  else if (celL w).2 = 0 then (tkC (celL w).1, w.length, 0) else (tkZ, 0, (celL w).2)
def sgs2 : List (List UInt8) := [[60, 62], [60, 61], [62, 61]]
def sgs1 : List (List UInt8) := [[43], [45], [42], [47], [38], [61], [60], [62], [40], [41], [44], [58]]
def sgnT7 (l : List UInt8) : Tk × Nat × Int :=
  match (sgs2 ++ sgs1).find? (fun g => g.isPrefixOf l) with
  | none => (tkZ, 0, 5)
  | some g => (tkO g, g.length, 0)
def oneT7 : List UInt8 → Tk × Nat × Int
  | [] => (tkZ, 0, 5)
  | c :: r => if dg c = true then numT7 (c :: r) else if c = 34 then txtT7 (c :: r) else if c = 35 then fltT7 (c :: r) else if (ltB c || c == 36) = true then wrdT7 (c :: r) else sgnT7 (c :: r)
theorem oneT7_cons (c : UInt8) (r : List UInt8) : oneT7 (c :: r) = if dg c = true then numT7 (c :: r) else if c = 34 then txtT7 (c :: r) else if c = 35 then fltT7 (c :: r) else if (ltB c || c == 36) = true then wrdT7 (c :: r) else sgnT7 (c :: r) := rfl
theorem unq_le : ∀ (n : Nat) (l t : List UInt8) (k : Nat), l.length ≤ n → unq l = some (t, k) → 1 ≤ k ∧ k ≤ l.length ∧ t.length < k
  | _, [], t, k, _, h => by unfold unq at h; cases h
  | 0, c :: r, t, k, hn, _ => by simp at hn
  | n + 1, c :: r, t, k, hn, h => by
    unfold unq at h
    simp only [List.length_cons] at hn
    split at h
    · cases r with
      | nil => simp only [Option.some.injEq, Prod.mk.injEq] at h; obtain ⟨rfl, rfl⟩ := h; simp
      | cons d q =>
        simp only at h
        split at h
        · obtain ⟨⟨t', k'⟩, h1, h2⟩ := Option.map_eq_some_iff.1 h
          have := unq_le n q t' k' (by simp at hn; omega) h1
          simp only [Prod.mk.injEq] at h2
          obtain ⟨rfl, rfl⟩ := h2
          simp
          omega
        · simp only [Option.some.injEq, Prod.mk.injEq] at h; obtain ⟨rfl, rfl⟩ := h; simp
    · obtain ⟨⟨t', k'⟩, h1, h2⟩ := Option.map_eq_some_iff.1 h
      have := unq_le n r t' k' (by omega) h1
      simp only [Prod.mk.injEq] at h2
      obtain ⟨rfl, rfl⟩ := h2
      simp
      omega
theorem takeWhile_len {p : UInt8 → Bool} (l : List UInt8) : (l.takeWhile p).length ≤ l.length := by
  have := congrArg List.length (List.takeWhile_append_dropWhile (p := p) (l := l))
  simp only [List.length_append] at this
  omega
theorem prefix_len {g l : List UInt8} (h : g.isPrefixOf l = true) : g.length ≤ l.length := (List.isPrefixOf_iff_prefix.1 h).length_le
theorem nameL_len (i : Int) (h : i ∈ ([1, 2, 3, 4, 5, 6, 7] : List Int)) : 1 ≤ (nameL i).length := by
  simp only [List.mem_cons, List.not_mem_nil, or_false] at h
  rcases h with rfl | rfl | rfl | rfl | rfl | rfl | rfl <;> decide
theorem sgs_len (g : List UInt8) (h : g ∈ sgs2 ++ sgs1) : 1 ≤ g.length ∧ g.length ≤ 2 := by
  have : (sgs2 ++ sgs1).all (fun g => decide (1 ≤ g.length ∧ g.length ≤ 2)) = true := by decide
  exact of_decide_eq_true (List.all_eq_true.1 this g h)
theorem wrdT7_len (l : List UInt8) (h : (wrdT7 l).2.2 = 0) : (wrdT7 l).2.1 = (l.takeWhile wdB).length := by
  unfold wrdT7 at h ⊢
  simp only at h ⊢
  by_cases h1 : (l.dropWhile wdB).head? = some 40
  · rw [if_pos h1] at h ⊢
    by_cases h2 : namB (l.takeWhile wdB) = true
    · rw [if_pos h2]
    · rw [if_neg h2] at h; cases h
  · rw [if_neg h1] at h ⊢
    by_cases h2 : (truP (l.takeWhile wdB)).2 = true
    · rw [if_pos h2]
    · rw [if_neg h2] at h ⊢
      by_cases h3 : (celL (l.takeWhile wdB)).2 = 0
      · rw [if_pos h3]
      · rw [if_neg h3] at h; exact absurd h h3
theorem oneT7_len (l : List UInt8) (h : (oneT7 l).2.2 = 0) : 1 ≤ (oneT7 l).2.1 ∧ (oneT7 l).2.1 ≤ l.length := by
  cases l with
  | nil => cases h
  | cons c r =>
    rw [oneT7_cons] at h ⊢
    split
    · rename_i hd
      rw [if_pos hd] at h
      have hw : 1 ≤ ((c :: r).takeWhile nmB).length := by rw [List.takeWhile_cons_of_pos (by unfold nmB; rw [hd]; rfl)]; simp
      unfold numT7 at h ⊢
      simp only at h ⊢
      split
      · exact ⟨hw, takeWhile_len _⟩
      · rename_i hn
        rw [if_neg hn] at h
        exact absurd h hn
    · rename_i hd
      rw [if_neg hd] at h
      split
      · rename_i hq
        rw [if_pos hq] at h
        unfold txtT7 at h ⊢
        simp only [List.tail_cons] at h ⊢
        cases hu : unq r with
        | none => rw [hu] at h; cases h
        | some x =>
          obtain ⟨t, n⟩ := x
          rw [hu] at h
          have := unq_le r.length r t n (Nat.le_refl _) hu
          simp only at h ⊢
          split
          · simp; omega
          · rename_i hn; rw [if_neg hn] at h; cases h
      · rename_i hq
        rw [if_neg hq] at h
        split
        · rename_i hf
          rw [if_pos hf] at h
          unfold fltT7 at h ⊢
          cases hu : ([1, 2, 3, 4, 5, 6, 7] : List Int).find? (fun i => (nameL i).isPrefixOf (c :: r)) with
          | none => rw [hu] at h; cases h
          | some i =>
            simp only
            exact ⟨nameL_len i (List.mem_of_find?_eq_some hu), prefix_len (List.find?_some (p := fun i => (nameL i).isPrefixOf (c :: r)) hu)⟩
        · rename_i hf
          rw [if_neg hf] at h
          split
          · rename_i hw
            rw [if_pos hw] at h
            have hw1 : 1 ≤ ((c :: r).takeWhile wdB).length := by
              rw [List.takeWhile_cons_of_pos (by
                unfold wdB
                simp only [Bool.or_eq_true] at hw ⊢
                rcases hw with hw | hw
                · exact .inl (.inl (.inl (.inl hw)))
                · exact .inl (.inl (.inr hw)))]
              simp
            have hw2 := takeWhile_len (p := wdB) (c :: r)
            rw [wrdT7_len _ h]
            exact ⟨hw1, hw2⟩
          · rename_i hw
            rw [if_neg hw] at h
            unfold sgnT7 at h ⊢
            cases hu : (sgs2 ++ sgs1).find? (fun g => g.isPrefixOf (c :: r)) with
            | none => rw [hu] at h; cases h
            | some g =>
              simp only
              exact ⟨(sgs_len g (List.mem_of_find?_eq_some hu)).1, prefix_len (List.find?_some (p := fun (g : List UInt8) => g.isPrefixOf (c :: r)) hu)⟩
def scanF : Nat → Nat → List UInt8 → List Tk × Nat × Int
  | 0, _, _ => ([], 0, 0)
  | _ + 1, i, [] => ([tkAt tkZ i], 0, 0)
  | f + 1, i, c :: r =>
    if c = 32 then scanF f (i + 1) r
    else if (oneT7 (c :: r)).2.2 = 0 then
      (let x := scanF f (i + (oneT7 (c :: r)).2.1) ((c :: r).drop (oneT7 (c :: r)).2.1)
       if x.2.2 = 0 then (tkAt (oneT7 (c :: r)).1 i :: x.1, 0, 0) else ([], x.2))
    else ([], i, (oneT7 (c :: r)).2.2)
def scanL (l : List UInt8) : List Tk × Nat × Int := if 1024 < l.length then ([], 0, 7) else scanF (l.length + 1) 0 l
end Go.Proofs.YtmppnobldhhpjaaGreatDoor.Pr
end
section
namespace Go.Proofs.YtmppnobldhhpjaaGreatDoor.Pr
set_option linter.unusedVariables false
set_option linter.unusedSimpArgs false
open Go.RowKit Go.Proofs.YtmppnobldhhpjaaGreatDoorW.PrintWords Go.Proofs.YtmppnobldhhpjaaGreatDoorW.PrintLast Go.Proofs.YtmppnobldhhpjaaGreatDoorW.PrintMore
theorem tw_step {p : UInt8 → Bool} : ∀ (l : List UInt8) (k : Nat) (h : k < l.length), k ≤ (l.takeWhile p).length → p l[k] = true → k + 1 ≤ (l.takeWhile p).length
  | [], k, h, _, _ => by simp at h
  | c :: r, 0, h, _, hp => by
    have hc : p c = true := hp
    rw [List.takeWhile_cons_of_pos hc]; simp
  | c :: r, k + 1, h, hk, hp => by
    have hc : p c = true := by
      by_cases hc : p c = true
      · exact hc
      · rw [List.takeWhile_cons_of_neg hc] at hk; simp at hk
    rw [List.takeWhile_cons_of_pos hc] at hk ⊢
    simp only [List.length_cons] at h hk ⊢
    have := tw_step (p := p) r k (by omega) (by omega) (by simpa using hp)
    omega
theorem tw_stop {p : UInt8 → Bool} : ∀ (l : List UInt8) (k : Nat), k ≤ (l.takeWhile p).length → (∀ h : k < l.length, p l[k] = false) → (l.takeWhile p) = l.take k
  | [], k, _, _ => by simp
  | c :: r, 0, _, hp => by
    have hc : p c = false := hp (by simp)
    rw [List.takeWhile_cons_of_neg (by rw [hc]; simp)]; simp
  | c :: r, k + 1, hk, hp => by
    have hc : p c = true := by
      by_cases hc : p c = true
      · exact hc
      · rw [List.takeWhile_cons_of_neg hc] at hk; simp at hk
    rw [List.takeWhile_cons_of_pos hc] at hk ⊢
    simp only [List.length_cons] at hk
    rw [List.take_succ_cons, tw_stop r k (by omega) (fun h => hp (Nat.succ_lt_succ h))]
theorem tw_len {p : UInt8 → Bool} (l : List UInt8) (k : Nat) (hk : k ≤ (l.takeWhile p).length) (hp : ∀ h : k < l.length, p l[k] = false) : (l.takeWhile p).length = k := by
  have h := congrArg List.length (tw_stop l k hk hp)
  rw [List.length_take] at h
  have := takeWhile_len (p := p) l
  omega
theorem tw_take {p : UInt8 → Bool} (l : List UInt8) : l.take (l.takeWhile p).length = l.takeWhile p := by
  have h := congrArg (List.take (l.takeWhile p).length) (List.takeWhile_append_dropWhile (p := p) (l := l))
  rw [List.take_left'] at h
  · exact h.symm
  · rfl
theorem tw_drop {p : UInt8 → Bool} (l : List UInt8) : l.drop (l.takeWhile p).length = l.dropWhile p := by
  have h := congrArg (List.drop (l.takeWhile p).length) (List.takeWhile_append_dropWhile (p := p) (l := l))
  rw [List.drop_left'] at h
  · exact h.symm
  · rfl
theorem bt_at (pre l : List UInt8) (k : Nat) (h : k < l.length) : bt (bl (pre ++ l)) ((pre.length + k : Nat) : Int) = ((l[k]).toNat : Int) := by
  have e : l = l.take k ++ l[k] :: l.drop (k + 1) := by rw [← List.drop_eq_getElem_cons h, List.take_append_drop]
  have hq : bl (pre ++ l) = bl ((pre ++ l.take k) ++ l[k] :: l.drop (k + 1)) := by rw [List.append_assoc, ← e]
  rw [hq]
  refine bt_bl _ _ _ _ ?_
  simp
  omega
theorem ext_at (pre l : List UInt8) (k : Nat) (h : k ≤ l.length) : (bl (pre ++ l)).extract pre.length (pre.length + k) = bl (l.take k) := by
  rw [bl_extract]
  congr 1
  rw [List.take_append, List.take_of_length_le (by omega), List.drop_append, List.drop_of_length_le (by omega), show pre.length + k - pre.length = k by omega]
  simp
theorem u8_all (P : UInt8 → Bool) (h : (List.range 256).all (fun n => P (UInt8.ofNat n)) = true) (c : UInt8) : P c = true := by
  have := List.all_eq_true.1 h c.toNat (List.mem_range.2 c.toNat_lt)
  simpa using this
theorem u8_dec (P : UInt8 → Prop) [∀ c, Decidable (P c)] (h : (List.range 256).all (fun n => decide (P (UInt8.ofNat n))) = true) (c : UInt8) : P c := of_decide_eq_true (u8_all (fun c => decide (P c)) h c)
theorem ref07_digit_eq (c : UInt8) : foolscapref07_digit.f (c.toNat : Int) = some (dg c) := u8_dec (fun c => foolscapref07_digit.f (c.toNat : Int) = some (dg c)) (by decide +kernel) c
theorem ref07_letter_eq (c : UInt8) : foolscapref07_letter.f (c.toNat : Int) = some (ltB c) := u8_dec (fun c => foolscapref07_letter.f (c.toNat : Int) = some (ltB c)) (by decide +kernel) c
theorem ref07_row_l0 (b : Bool) (pre l : List UInt8) (hlen : pre.length + l.length ≤ 1000000) : ∀ (k i : Nat), l.length - i < k → i ≤ (l.takeWhile (if b = true then wdB else nmB)).length →
    foolscapref07_row.l0 k (bl (pre ++ l)) (pre.length : Int) b (i : Int) = some (((l.takeWhile (if b = true then wdB else nmB)).length : Nat) : Int)
  | 0, i, h, _ => by omega
  | k + 1, i, h, hi => by
    have hle := takeWhile_len (p := (if b = true then wdB else nmB)) l
    have hw : wrap64 ((pre.length : Int) + (i : Int)) = ((pre.length + i : Nat) : Int) := by unfold wrap64; omega
    have hw1 : wrap64 ((i : Int) + 1) = ((i + 1 : Nat) : Int) := by unfold wrap64; omega
    unfold foolscapref07_row.l0
    rw [hw, bl_size, List.length_append]
    by_cases hil : i < l.length
    · rw [if_pos (by omega), if_pos (by omega), bt_at pre l i hil, ref07_digit_eq, Option.bind_some, hw1]
      have hst := tw_step (p := (if b = true then wdB else nmB)) l i hil hi
      have hsp := tw_len (p := (if b = true then wdB else nmB)) l i hi
      have go : (if b = true then wdB else nmB) l[i] = true → foolscapref07_row.l0 k (bl (pre ++ l)) (pre.length : Int) b ((i + 1 : Nat) : Int) = some (((l.takeWhile (if b = true then wdB else nmB)).length : Nat) : Int) := fun hp => ref07_row_l0 b pre l hlen k (i + 1) (by omega) (hst hp)
      have st : (if b = true then wdB else nmB) l[i] = false → (some (i : Int) : Option Int) = some (((l.takeWhile (if b = true then wdB else nmB)).length : Nat) : Int) := fun hp => by rw [hsp (fun _ => hp)]
      generalize l[i] = c at go st
      cases hd : dg c with
      | true =>
        rw [if_pos rfl]
        exact go (by cases b <;> simp [wdB, nmB, hd])
      | false =>
        rw [if_neg (by simp)]
        by_cases e46 : c = 46
        · rw [if_pos (by rw [e46]; rfl)]
          exact go (by cases b <;> simp [wdB, nmB, e46])
        · rw [if_neg (fun e => e46 (by have := congrArg (fun z : Int => z.toNat) e; exact UInt8.toNat_inj.1 (by simpa using this)))]
          cases b with
          | false =>
            rw [if_neg (by simp)]
            exact st (by simp [nmB, hd, e46])
          | true =>
            rw [if_pos rfl, ref07_letter_eq, Option.bind_some]
            cases hl : ltB c with
            | true => rw [if_pos rfl]; exact go (by simp [wdB, hl])
            | false =>
              rw [if_neg (by simp)]
              by_cases e36 : c = 36
              · rw [if_pos (by rw [e36]; rfl)]; exact go (by simp [wdB, e36])
              · rw [if_neg (fun e => e36 (by have := congrArg (fun z : Int => z.toNat) e; exact UInt8.toNat_inj.1 (by simpa using this)))]
                by_cases e95 : c = 95
                · rw [if_pos (by rw [e95]; rfl)]; exact go (by simp [wdB, e95])
                · rw [if_neg (fun e => e95 (by have := congrArg (fun z : Int => z.toNat) e; exact UInt8.toNat_inj.1 (by simpa using this)))]
                  exact st (by simp [wdB, hd, hl, e46, e36, e95])
    · rw [if_neg (by omega)]
      have hsp := tw_len (p := (if b = true then wdB else nmB)) l i hi (fun h => absurd h hil)
      rw [hsp]
theorem ref07_row_eq (b : Bool) (pre l : List UInt8) (hlen : pre.length + l.length ≤ 1000000) (k : Nat) (hk : l.length < k) :
    foolscapref07_row.f k (bl (pre ++ l)) (pre.length : Int) b = some (((l.takeWhile (if b = true then wdB else nmB)).length : Nat) : Int) := by
  unfold foolscapref07_row.f
  exact ref07_row_l0 b pre l hlen k 0 (by omega) (Nat.zero_le _)
abbrev FlT := Int × Int × Int × ByteArray × Bool × Int × Int × Int × Bool × Bool × ByteArray × Int × Int × Int
def flT (t : Tk) (n e : Int) : FlT := (t.f0, t.f1.f0, t.f1.f1, t.f1.f2, t.f1.f3, t.f1.f4, t.f2.f0.f0, t.f2.f0.f1, t.f2.f1, t.f2.f2, t.f3, t.f4, n, e)
def refT (i : Nat) (r : Tk × Nat × Int) : FlT := if r.2.2 = 0 then flT (tkAt r.1 i) ((i + r.2.1 : Nat) : Int) 0 else flT tkZ 0 r.2.2
theorem numL_err (l : List UInt8) : (numL l).2 = 0 ∨ (numL l).2 = 3 ∨ (numL l).2 = 5 := by
  unfold numL numT numR numFin
  repeat' split
  all_goals simp
theorem ref07_number_eq (pre l : List UInt8) (hlen : pre.length + l.length ≤ 1000000) (k : Nat) (hk : l.length + 300 ≤ k) :
    foolscapref07_number.f k (bl (pre ++ l)) (pre.length : Int) = some (refT pre.length (numT7 l)) := by
  unfold foolscapref07_number.f numT7
  rw [ref07_row_eq false pre l hlen k (by omega), Option.bind_some]
  simp only [Bool.false_eq_true, if_false]
  have hle := takeWhile_len (p := nmB) l
  have htk := tw_take (p := nmB) l
  generalize hn : (l.takeWhile nmB).length = n at hle htk ⊢
  have hw : wrap64 ((pre.length : Int) + (n : Int)) = ((pre.length + n : Nat) : Int) := by unfold wrap64; omega
  rw [hw, if_pos (by omega), if_pos (by omega), if_pos (by rw [bl_size, List.length_append]; omega)]
  rw [show ((pre.length : Int)).toNat = pre.length by omega, show (((pre.length + n : Nat) : Int)).toNat = pre.length + n by omega, ext_at pre l n hle, htk, ref01_Parse_eq k (by omega), Option.bind_some]
  unfold refT
  rcases numL_err (l.takeWhile nmB) with h | h | h
  · rw [h]; rfl
  · rw [h]; rfl
  · rw [h]; rfl
theorem unq_cons (c : UInt8) (r : List UInt8) (h : c ≠ 34) : unq (c :: r) = (unq r).map (fun x => (c :: x.1, x.2 + 1)) := by
  conv => lhs; unfold unq
  rw [if_neg h]
theorem unq_two (r : List UInt8) : unq (34 :: 34 :: r) = (unq r).map (fun x => (34 :: x.1, x.2 + 2)) := by
  conv => lhs; unfold unq
  rfl
theorem unq_end (d : UInt8) (r : List UInt8) (h : d ≠ 34) : unq (34 :: d :: r) = some ([], 1) := by
  conv => lhs; unfold unq
  rw [if_pos rfl]
  simp only
  rw [if_neg h]
def refTx (i : Nat) (acc : List UInt8) (j : Nat) (u : Option (List UInt8 × Nat)) : FlT :=
  match u with
  | none => flT tkZ 0 5
  | some (t, n) => if (acc ++ t).length ≤ 255 then flT (tkAt (tkV 2 0 (acc ++ t) false 0) i) ((j + n : Nat) : Int) 0 else flT tkZ 0 7
theorem bt_head (pre l : List UInt8) (c : UInt8) : bt (bl (pre ++ c :: l)) (pre.length : Int) = (c.toNat : Int) := bt_bl _ _ _ _ rfl
theorem u8_of {c d : UInt8} (e : (c.toNat : Int) = (d.toNat : Int)) : c = d := UInt8.toNat_inj.1 (by omega)
theorem ref07_text_l0 (i : Nat) : ∀ (k : Nat) (pre l acc : List UInt8), 2 * l.length < k → pre.length + l.length ≤ 1000000 → acc.length + l.length ≤ 1000000 →
    foolscapref07_text.l0 k (bl (pre ++ l)) (i : Int) (bl acc) (pre.length : Int) = some (refTx i acc pre.length (unq l))
  | 0, _, _, _, h, _, _ => by omega
  | k + 1, pre, [], acc, h, hp, ha => by
    unfold foolscapref07_text.l0
    rw [if_neg (by rw [bl_size]; simp)]
    unfold unq refTx
    rfl
  | k + 1, pre, c :: r, acc, h, hp, ha => by
    simp only [List.length_cons] at h hp ha
    have hw1 : wrap64 ((pre.length : Int) + 1) = ((pre.length + 1 : Nat) : Int) := by unfold wrap64; omega
    have hw2 : wrap64 (((pre.length + 1 : Nat) : Int) + 1) = ((pre.length + 2 : Nat) : Int) := by unfold wrap64; omega
    unfold foolscapref07_text.l0
    rw [if_pos (by rw [bl_size]; simp; omega), if_pos (by omega), bt_head, hw1]
    by_cases h34 : c = 34
    · subst h34
      rw [if_pos (by decide)]
      cases r with
      | nil =>
        rw [if_neg (by rw [bl_size]; simp)]
        cases k with
        | zero => simp at h
        | succ k =>
          unfold foolscapref07_text.j1
          rw [if_neg (by simp)]
          unfold unq refTx
          rw [bl_size, hw1]
          simp only [if_true, List.append_nil]
          by_cases h255 : acc.length ≤ 255
          · rw [if_neg (by omega), if_pos h255]; rfl
          · rw [if_pos (by omega), if_neg h255]; rfl
      | cons d q =>
        simp only [List.length_cons] at h hp ha
        rw [if_pos (by rw [bl_size]; simp; omega), if_pos (by omega)]
        have hb : bt (bl (pre ++ 34 :: d :: q)) ((pre.length + 1 : Nat) : Int) = (d.toNat : Int) := by
          rw [show pre ++ 34 :: d :: q = (pre ++ [34]) ++ d :: q by simp]
          exact bt_bl _ _ _ _ (by simp)
        rw [hb]
        cases k with
        | zero => omega
        | succ k =>
          unfold foolscapref07_text.j1
          by_cases hd : d = 34
          · subst hd
            rw [if_pos (by decide), if_pos (by rw [bl_size]; omega), hw1, hw2, show (⟨#[34]⟩ : ByteArray) = bl [34] from rfl, bl_append]
            have := ref07_text_l0 i k (pre ++ [34, 34]) q (acc ++ [34]) (by omega) (by simp; omega) (by simp; omega)
            have e2 : (pre ++ [34, 34]).length = pre.length + 2 := by simp
            rw [show (pre ++ [34, 34]) ++ q = pre ++ 34 :: 34 :: q by simp, e2] at this
            rw [this, unq_two]
            cases unq q with
            | none => rfl
            | some x =>
              obtain ⟨t, n⟩ := x
              unfold refTx
              simp only [Option.map_some]
              rw [show acc ++ [34] ++ t = acc ++ 34 :: t by simp, show pre.length + 2 + n = pre.length + (n + 2) by omega]
          · have hq : (((d.toNat : Int) == 34) = true) = False := by
              refine eq_false fun e => hd (u8_of ?_)
              simpa using e
            rw [if_neg (by rw [hq]; simp), unq_end d q hd, bl_size, hw1]
            unfold refTx
            simp only [List.append_nil]
            by_cases h255 : acc.length ≤ 255
            · rw [if_neg (by omega), if_pos h255]; rfl
            · rw [if_pos (by omega), if_neg h255]; rfl
    · rw [if_neg (fun e => h34 (u8_of (by simpa using e))), if_pos (by omega), if_pos (by rw [bl_size]; simp; omega)]
      have hx : (bl (pre ++ c :: r)).extract ((pre.length : Int)).toNat (((pre.length + 1 : Nat) : Int)).toNat = bl [c] := by
        rw [show ((pre.length : Int)).toNat = pre.length by omega, show (((pre.length + 1 : Nat) : Int)).toNat = pre.length + 1 by omega, ext_at pre (c :: r) 1 (by simp)]; rfl
      rw [hx, if_pos (by rw [bl_size, bl_size]; simp; omega), bl_append]
      have := ref07_text_l0 i k (pre ++ [c]) r (acc ++ [c]) (by omega) (by simp; omega) (by simp; omega)
      have e1 : (pre ++ [c]).length = pre.length + 1 := by simp
      rw [show (pre ++ [c]) ++ r = pre ++ c :: r by simp, e1] at this
      rw [this, unq_cons c r h34]
      cases unq r with
      | none => rfl
      | some x =>
        obtain ⟨t, n⟩ := x
        unfold refTx
        simp only [Option.map_some]
        rw [show acc ++ [c] ++ t = acc ++ c :: t by simp, show pre.length + 1 + n = pre.length + (n + 1) by omega]
termination_by k => k
theorem ref07_text_eq (pre : List UInt8) (c : UInt8) (r : List UInt8) (hlen : pre.length + (c :: r).length ≤ 1000000) (k : Nat) (hk : 2 * r.length < k) :
    foolscapref07_text.f k (bl (pre ++ c :: r)) (pre.length : Int) = some (refT pre.length (txtT7 (c :: r))) := by
  simp only [List.length_cons] at hlen
  unfold foolscapref07_text.f
  have h := ref07_text_l0 pre.length k (pre ++ [c]) r [] hk (by simp; omega) (by simp; omega)
  rw [show (pre ++ [c]) ++ r = pre ++ c :: r by simp, show (((pre ++ [c]).length : Nat) : Int) = wrap64 ((pre.length : Int) + 1) by simp; unfold wrap64; omega] at h
  rw [show (⟨#[]⟩ : ByteArray) = bl [] from rfl, h]
  unfold txtT7 refTx
  rw [List.tail_cons]
  cases unq r with
  | none => rfl
  | some x =>
    obtain ⟨t, n⟩ := x
    simp only [List.nil_append]
    unfold refT
    by_cases h255 : t.length ≤ 255
    · rw [if_pos h255, if_pos h255]
      simp only [if_true]
      rw [show (pre ++ [c]).length + n = pre.length + (n + 1) by simp; omega]
    · rw [if_neg h255, if_neg h255]; rfl
end Go.Proofs.YtmppnobldhhpjaaGreatDoor.Pr
end
