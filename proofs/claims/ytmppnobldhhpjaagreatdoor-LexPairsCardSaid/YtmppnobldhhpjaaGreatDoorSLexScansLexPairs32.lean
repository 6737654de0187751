/-
  Lemmas for the law LexScansLexPairs.
-/
import Derived.Test.YtmppnobldhhpjaaGreatDoorSLexScansLexPairs29
import Derived.Test.YtmppnobldhhpjaaGreatDoorSLexScansLexPairs31
import Derived.Test.YtmppnobldhhpjaaGreatDoorSLexScansLexPairs26
import Derived.Test.YtmppnobldhhpjaaGreatDoorSLexScansLexPairs30
section
namespace Go.Proofs.YtmppnobldhhpjaaGreatDoor.Pr
set_option linter.unusedVariables false
set_option linter.unusedSimpArgs false
open Go.RowKit Go.Proofs.YtmppnobldhhpjaaGreatDoorW.PrintWords Go.Proofs.YtmppnobldhhpjaaGreatDoorW.PrintLast Go.Proofs.YtmppnobldhhpjaaGreatDoorW.PrintMore
theorem ref07_word_eq (pre l : List UInt8) (hlen : pre.length + l.length ≤ 1000000) (k : Nat) (hk : l.length + 100 ≤ k) :
    foolscapref07_word.f k (bl (pre ++ l)) (pre.length : Int) = some (refT pre.length (wrdT7 l)) := by
  have hle := takeWhile_len (p := wdB) l
  have htk := tw_take (p := wdB) l
  have hdr := tw_drop (p := wdB) l
  unfold foolscapref07_word.f wrdT7
  rw [ref07_row_eq true pre l hlen k (by omega), Option.bind_some]
  simp only [if_true]
  generalize hn : (l.takeWhile wdB).length = n at hle htk hdr ⊢
  have hw : wrap64 ((pre.length : Int) + (n : Int)) = ((pre.length + n : Nat) : Int) := by unfold wrap64; omega
  have hx : (bl (pre ++ l)).extract ((pre.length : Int)).toNat (((pre.length + n : Nat) : Int)).toNat = bl (l.takeWhile wdB) := by
    rw [show ((pre.length : Int)).toNat = pre.length by omega, show (((pre.length + n : Nat) : Int)).toNat = pre.length + n by omega, ext_at pre l n hle, htk]
  rw [hw, if_pos (by omega), if_pos (by omega), if_pos (by rw [bl_size, List.length_append]; omega), hx]
  have hwl : (l.takeWhile wdB).length ≤ 1000000 := by omega
  have hwl2 : (l.takeWhile wdB).length + 100 ≤ k := by omega
  generalize l.takeWhile wdB = w at hn hwl hwl2 hx ⊢
  have j0t : foolscapref07_word.j0 k (pre.length : Int) (bl w) ((pre.length + n : Nat) : Int) true = some (refT pre.length (if namB w = true then (tkN (foldL w), n, 0) else (tkZ, 0, 5))) := by
    obtain ⟨k, rfl⟩ : ∃ k', k = k' + 1 := ⟨k - 1, by omega⟩
    rw [foolscapref07_word.j0]
    rw [if_pos rfl, ref07_Name_eq w hwl k (by omega), Option.bind_some]
    cases namB w with
    | true => rw [if_pos rfl, ref_Fold_eq w (by omega), Option.bind_some]; rfl
    | false => rw [if_neg (by simp)]; rfl
  have j0f : foolscapref07_word.j0 k (pre.length : Int) (bl w) ((pre.length + n : Nat) : Int) false = some (refT pre.length (if (truP w).2 = true then (tkV 3 0 [] (truP w).1 0, n, 0) else if (celL w).2 = 0 then (tkC (celL w).1, n, 0) else (tkZ, 0, (celL w).2))) := by
    obtain ⟨k, rfl⟩ : ∃ k', k = k' + 1 := ⟨k - 1, by omega⟩
    obtain ⟨k, rfl⟩ : ∃ k', k = k' + 1 := ⟨k - 1, by omega⟩
    rw [foolscapref07_word.j0]
    rw [if_neg (by simp), ref_Fold_eq w (by omega), Option.bind_some, bl_toList]
    have j1 : ∀ z : Bool, z = (truP w).2 → foolscapref07_word.j1 (k + 1) (pre.length : Int) (bl w) ((pre.length + n : Nat) : Int) (bl (foldL w)) z = some (refT pre.length (if (truP w).2 = true then (tkV 3 0 [] (truP w).1 0, n, 0) else if (celL w).2 = 0 then (tkC (celL w).1, n, 0) else (tkZ, 0, (celL w).2))) := by
      intro z hz
      subst hz
      rw [foolscapref07_word.j1]
      cases ht : (truP w).2 with
      | true => rw [if_pos rfl, if_pos rfl, bl_toList]; rfl
      | false =>
        rw [if_neg (by simp), if_neg (by simp), ref05_Parse_eq w hwl k (by omega), Option.bind_some]
        unfold flC
        simp only
        by_cases he : (celL w).2 = 0
        · rw [if_pos he, if_pos he]; rfl
        · rw [if_neg he, if_neg he]
          unfold refT
          rw [if_neg he]; rfl
    by_cases hT : foldL w = ([84, 82, 85, 69] : List UInt8)
    · rw [if_pos hT]
      exact j1 true (by unfold truP; rw [hT]; rfl)
    · rw [if_neg hT]
      exact j1 _ (by unfold truP; rw [show (foldL w == TRUEL) = false from beq_eq_false_iff_ne.2 hT, Bool.false_or]; rfl)
  by_cases hnl : n < l.length
  · rw [if_pos (by rw [bl_size, List.length_append]; omega), if_pos (by omega), bt_at pre l n hnl]
    have hh : (l.dropWhile wdB).head? = some l[n] := by rw [← hdr, List.drop_eq_getElem_cons hnl]; rfl
    rw [hh]
    by_cases h40 : l[n] = 40
    · rw [if_pos (by rw [h40]), show ((((l[n]).toNat : Int) == 40) = true) from by rw [h40]; rfl]
      exact j0t
    · rw [if_neg (fun e => h40 (Option.some.inj e)), show ((((l[n]).toNat : Int) == 40) = false) from beq_eq_false_iff_ne.2 (fun e => h40 (u8_of (by simpa using e)))]
      exact j0f
  · rw [if_neg (by rw [bl_size, List.length_append]; omega), if_neg (by rw [← hdr, List.drop_of_length_le (by omega)]; simp)]
    exact j0f
theorem ref07_one_eq (pre : List UInt8) (c : UInt8) (r : List UInt8) (hlen : pre.length + (c :: r).length ≤ 1000000) (k : Nat) (hk : 2 * (c :: r).length + 400 ≤ k) :
    foolscapref07_one.f k (bl (pre ++ c :: r)) (pre.length : Int) = some (refT pre.length (oneT7 (c :: r))) := by
  have hl := hlen
  simp only [List.length_cons] at hl hk
  rw [oneT7_cons]
  unfold foolscapref07_one.f
  rw [if_pos ⟨by omega, by rw [bl_size]; simp; omega⟩, bt_head, ref07_digit_eq, Option.bind_some, ref07_letter_eq, Option.bind_some]
  by_cases hd : dg c = true
  · rw [if_pos hd, if_pos hd, ref07_number_eq pre (c :: r) hlen k (by simp <;> omega)]
  · rw [if_neg hd, if_neg hd]
    by_cases h34 : c = 34
    · rw [if_pos (by rw [h34]; rfl), if_pos h34, ref07_text_eq pre c r hlen k (by omega)]
    · rw [if_neg (fun e => h34 (u8_of (by simpa using e))), if_neg h34]
      by_cases h35 : c = 35
      · rw [if_pos (by rw [h35]; rfl), if_pos h35, ref07_fault_eq pre (c :: r) hlen k (by omega)]
      · rw [if_neg (fun e => h35 (u8_of (by simpa using e))), if_neg h35]
        by_cases hw : (ltB c || c == 36) = true
        · rw [if_pos hw, if_pos, ref07_word_eq pre (c :: r) hlen k (by simp <;> omega)]
          rcases Bool.or_eq_true_iff.1 hw with h | h
          · exact .inl h
          · exact .inr (by rw [eq_of_beq h]; rfl)
        · rw [if_neg hw, if_neg, ref07_sign_eq pre (c :: r) hlen k (by omega)]
          rintro (h | h)
          · exact hw (by rw [h]; rfl)
          · exact hw (by rw [u8_of (c := c) (d := 36) (by simpa using h)]; simp)
theorem ref07_Scan_l0 : ∀ (k : Nat) (pre l : List UInt8) (acc : List Tk) (f : Nat), 3 * l.length + 500 ≤ k → l.length < f → pre.length + l.length ≤ 1024 → acc.length ≤ pre.length →
    foolscapref07_Scan.l0 k (bl (pre ++ l)) acc (pre.length : Int) = some (if (scanF f pre.length l).2.2 = 0 then (acc ++ (scanF f pre.length l).1, 0, 0) else ([], (((scanF f pre.length l).2.1 : Nat) : Int), (scanF f pre.length l).2.2))
  | 0, _, _, _, _, h, _, _, _ => by omega
  | k + 1, pre, [], acc, f, h, hf, hl, ha => by
    obtain ⟨f, rfl⟩ : ∃ f', f = f' + 1 := ⟨f - 1, by omega⟩
    unfold foolscapref07_Scan.l0 scanF
    rw [if_neg (by rw [bl_size]; simp), if_pos (by omega), bl_size]
    simp only [if_true, List.append_nil]
    rfl
  | k + 1, pre, c :: r, acc, f, h, hf, hl, ha => by
    obtain ⟨f, rfl⟩ : ∃ f', f = f' + 1 := ⟨f - 1, by omega⟩
    have ih := ref07_Scan_l0 k
    simp only [List.length_cons] at h hf hl
    unfold foolscapref07_Scan.l0 scanF
    rw [if_pos (by rw [bl_size]; simp; omega), if_pos (by omega), bt_head]
    by_cases h32 : c = 32
    · rw [if_pos (by rw [h32]; rfl), if_pos h32]
      have := ih (pre ++ [c]) r acc f (by omega) (by omega) (by simp <;> omega) (by simp <;> omega)
      rw [show (pre ++ [c]) ++ r = pre ++ c :: r by simp, show (pre ++ [c]).length = pre.length + 1 by simp] at this
      rw [show wrap64 ((pre.length : Int) + 1) = ((pre.length + 1 : Nat) : Int) by unfold wrap64; omega]
      exact this
    · rw [if_neg (fun e => h32 (u8_of (by simpa using e))), if_neg h32, ref07_one_eq pre c r (by simp <;> omega) k (by simp <;> omega), Option.bind_some]
      have hn := oneT7_len (c :: r)
      generalize hx : oneT7 (c :: r) = x at hn
      obtain ⟨t, n, e⟩ := x
      simp only [List.length_cons] at hn ⊢
      by_cases he : e = 0
      · subst he
        obtain ⟨hn1, hn2⟩ := hn rfl
        unfold refT flT
        simp only [if_true]
        rw [if_pos (by omega)]
        have := ih (pre ++ (c :: r).take n) ((c :: r).drop n) (acc ++ [tkAt t pre.length]) f (by rw [List.length_drop]; simp; omega) (by rw [List.length_drop]; simp; omega) (by rw [List.length_drop, List.length_append, List.length_take]; simp; omega) (by rw [List.length_append, List.length_append, List.length_take]; simp; omega)
        rw [List.append_assoc, List.take_append_drop, show (pre ++ (c :: r).take n).length = pre.length + n by rw [List.length_append, List.length_take]; simp; omega] at this
        rw [show (acc ++ [(⟨(tkAt t pre.length).f0, ⟨(tkAt t pre.length).f1.f0, (tkAt t pre.length).f1.f1, (tkAt t pre.length).f1.f2, (tkAt t pre.length).f1.f3, (tkAt t pre.length).f1.f4⟩, ⟨⟨(tkAt t pre.length).f2.f0.f0, (tkAt t pre.length).f2.f0.f1⟩, (tkAt t pre.length).f2.f1, (tkAt t pre.length).f2.f2⟩, (tkAt t pre.length).f3, (tkAt t pre.length).f4⟩ : Tk)]) = acc ++ [tkAt t pre.length] from rfl, this]
        by_cases h2 : (scanF f (pre.length + n) ((c :: r).drop n)).2.2 = 0
        · simp only [h2, if_true, List.append_assoc, List.singleton_append]
        · simp only [h2, if_false]
      · unfold refT flT
        simp only [he, if_false]
theorem scanF_shape : ∀ (f i : Nat) (l : List UInt8), ((scanF f i l).2.2 = 0 ∧ (scanF f i l).2.1 = 0) ∨ ((scanF f i l).2.2 ≠ 0 ∧ (scanF f i l).1 = [])
  | 0, _, _ => .inl ⟨rfl, rfl⟩
  | f + 1, i, [] => .inl ⟨rfl, rfl⟩
  | f + 1, i, c :: r => by
    unfold scanF
    by_cases h : c = 32
    · rw [if_pos h]; exact scanF_shape f (i + 1) r
    · rw [if_neg h]
      by_cases h0 : (oneT7 (c :: r)).2.2 = 0
      · rw [if_pos h0]
        simp only
        rcases scanF_shape f (i + (oneT7 (c :: r)).2.1) ((c :: r).drop (oneT7 (c :: r)).2.1) with h1 | h1
        · rw [if_pos h1.1]; exact .inl ⟨rfl, rfl⟩
        · rw [if_neg h1.1]; exact .inr ⟨h1.1, rfl⟩
      · rw [if_neg h0]; exact .inr ⟨h0, rfl⟩
theorem ref07_Scan_eq (l : List UInt8) (k : Nat) (hk : 4000 ≤ k) : foolscapref07_Scan.f k (bl l) = some ((scanL l).1, (((scanL l).2.1 : Nat) : Int), (scanL l).2.2) := by
  unfold foolscapref07_Scan.f scanL
  rw [bl_size]
  by_cases h : 1024 < l.length
  · rw [if_pos (by omega), if_pos h]; rfl
  · rw [if_neg (by omega), if_neg h]
    have := ref07_Scan_l0 k [] l [] (l.length + 1) (by omega) (by omega) (by simp <;> omega) (by simp)
    rw [List.nil_append, List.length_nil, show ((0 : Nat) : Int) = 0 from rfl] at this
    rw [this]
    rcases scanF_shape (l.length + 1) 0 l with ⟨h1, h2⟩ | ⟨h1, h2⟩
    · rw [if_pos h1, h1, h2]; rfl
    · rw [if_neg h1, h2]
end Go.Proofs.YtmppnobldhhpjaaGreatDoor.Pr
end
