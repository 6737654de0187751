/-
  Lemmas for the law LexScansLexPairs.
-/
import Derived.Test.YtmppnobldhhpjaaGreatDoorSLexScansLexPairs24
import Derived.Test.YtmppnobldhhpjaaGreatDoorSLexScansLexPairs25
import Derived.Test.YtmppnobldhhpjaaGreatDoorSLexScansLexPairs22
import Derived.Test.YtmppnobldhhpjaaGreatDoorSLexScansLexPairs12
import Derived.Test.YtmppnobldhhpjaaGreatDoorSLexScansLexPairs16
import Derived.Test.YtmppnobldhhpjaaGreatDoorSLexScansLexPairs23
import Derived.Test.YtmppnobldhhpjaaGreatDoorSLexScansLexPairs10
section
namespace Go.Proofs.YtmppnobldhhpjaaGreatDoor.Pr
set_option linter.unusedVariables false
set_option linter.unusedSimpArgs false
open Go.RowKit Go.Proofs.YtmppnobldhhpjaaGreatDoorW.PrintWords Go.Proofs.YtmppnobldhhpjaaGreatDoorW.PrintLast Go.Proofs.YtmppnobldhhpjaaGreatDoorW.PrintMore
theorem rdOf_bl (L : List (List UInt8)) (j : Nat) (h : j < L.length) : rdOf ByteArray.empty (L.map bl) (j : Int) = bl L[j] := by
  unfold rdOf
  rw [Int.toNat_natCast, List.getD_eq_getElem?_getD, List.getElem?_map, List.getElem?_eq_getElem h]; rfl
theorem goes_on (pre l g : List UInt8) (hlen : pre.length + l.length ≤ 1000000) (hg : g.length ≤ 1000) (a b : Option FlT) :
    (if (wrap64 (((bl (pre ++ l)).size : Int) - (pre.length : Int))) ≥ ((bl g).size : Int) then (if 0 ≤ (pre.length : Int) then (if (pre.length : Int) ≤ (wrap64 ((pre.length : Int) + ((bl g).size : Int))) then (if (wrap64 ((pre.length : Int) + ((bl g).size : Int))) ≤ ((bl (pre ++ l)).size : Int) then (if ((bl (pre ++ l)).extract ((pre.length : Int)).toNat ((wrap64 ((pre.length : Int) + ((bl g).size : Int))) : Int).toNat).toList = (bl g).toList then a else b) else none) else none) else none) else b) = if g.isPrefixOf l = true then a else b := by
  rw [bl_size, bl_size, List.length_append]
  have hw1 : wrap64 (((pre.length + l.length : Nat) : Int) - (pre.length : Int)) = (l.length : Int) := by unfold wrap64; omega
  have hw2 : wrap64 ((pre.length : Int) + (g.length : Int)) = ((pre.length + g.length : Nat) : Int) := by unfold wrap64; omega
  rw [hw1, hw2]
  by_cases h : g.length ≤ l.length
  · rw [if_pos (by omega), if_pos (by omega), if_pos (by omega), if_pos (by omega), show ((pre.length : Int)).toNat = pre.length by omega, show (((pre.length + g.length : Nat) : Int)).toNat = pre.length + g.length by omega, ext_at pre l _ h, bl_toList, bl_toList]
    by_cases hp : g.isPrefixOf l = true
    · rw [if_pos hp, if_pos (by obtain ⟨t, rfl⟩ := List.isPrefixOf_iff_prefix.1 hp; simp)]
    · rw [if_neg hp, if_neg (fun e => hp (List.isPrefixOf_iff_prefix.2 ⟨l.drop g.length, by rw [← e]; simp [Nat.min_eq_left h]⟩))]
  · rw [if_neg (by omega), if_neg (fun hp => h (prefix_len hp))]
theorem ref07_sign_l0 (pre l : List UInt8) (L : List (List UInt8)) (hL : ∀ g ∈ L, g.length ≤ 1000) (hLl : L.length ≤ 1000) (hlen : pre.length + l.length ≤ 1000000) : ∀ (k j : Nat), L.length - j < k → j ≤ L.length →
    foolscapref07_sign.l0 k (bl (pre ++ l)) (pre.length : Int) (L.map bl) (j : Int) = some (refT pre.length (match (L.drop j).find? (fun g => g.isPrefixOf l) with
      | none => (tkZ, 0, 5)
      | some g => (tkO g, g.length, 0)))
  | 0, j, h, _ => by omega
  | k + 1, j, h, hj => by
    have hw1 : wrap64 ((j : Int) + 1) = ((j + 1 : Nat) : Int) := by unfold wrap64; omega
    unfold foolscapref07_sign.l0
    rw [List.length_map]
    by_cases hjl : j < L.length
    · have hm := hL _ (List.getElem_mem hjl)
      have hgl := prefix_len (g := L[j]) (l := l)
      rw [if_pos (by omega), if_pos (by omega), rdOf_bl L j hjl, hw1, List.drop_eq_getElem_cons hjl, List.find?_cons, goes_on pre l L[j] hlen hm]
      by_cases hp : (L[j]).isPrefixOf l = true
      · rw [if_pos hp, hp]
        have := hgl hp
        rw [bl_size, show wrap64 ((pre.length : Int) + ((L[j]).length : Int)) = ((pre.length + (L[j]).length : Nat) : Int) by unfold wrap64; omega]
        rfl
      · rw [if_neg hp, Bool.eq_false_iff.2 hp]
        exact ref07_sign_l0 pre l L hL hLl hlen k (j + 1) (by omega) (by omega)
    · rw [if_neg (by omega), List.drop_of_length_le (by omega)]; rfl
theorem ref07_sign_eq (pre l : List UInt8) (hlen : pre.length + l.length ≤ 1000000) (k : Nat) (hk : 20 ≤ k) :
    foolscapref07_sign.f k (bl (pre ++ l)) (pre.length : Int) = some (refT pre.length (sgnT7 l)) := by
  unfold foolscapref07_sign.f sgnT7
  have h := ref07_sign_l0 pre l (sgs2 ++ sgs1) (fun g hg => by have := sgs_len g hg; omega) (by decide) hlen k 0 (by rw [show (sgs2 ++ sgs1).length = 15 from rfl]; omega) (Nat.zero_le _)
  rw [List.drop_zero] at h
  exact h
theorem ref07_fault_l0 (pre l : List UInt8) (hlen : pre.length + l.length ≤ 1000000) : ∀ (k j : Nat), 8 - j < k → 1 ≤ j → j ≤ 8 →
    foolscapref07_fault.l0 k (bl (pre ++ l)) (pre.length : Int) nmsL (j : Int) = some (refT pre.length (match (([0, 1, 2, 3, 4, 5, 6, 7] : List Int).drop j).find? (fun i => (nameL i).isPrefixOf l) with
      | none => (tkZ, 0, 5)
      | some i => (tkV 4 0 [] false i, (nameL i).length, 0)))
  | 0, j, h, _, _ => by omega
  | k + 1, j, h, h1, hj => by
    have hw1 : wrap64 ((j : Int) + 1) = ((j + 1 : Nat) : Int) := by unfold wrap64; omega
    unfold foolscapref07_fault.l0
    rw [show (nmsL.length : Int) = 8 from rfl]
    by_cases hjl : j < 8
    · have hr : rdOf ByteArray.empty nmsL (j : Int) = bl (nameL (j : Int)) := by
        have : j = 1 ∨ j = 2 ∨ j = 3 ∨ j = 4 ∨ j = 5 ∨ j = 6 ∨ j = 7 := by omega
        rcases this with rfl | rfl | rfl | rfl | rfl | rfl | rfl <;> rfl
      have hn : (nameL (j : Int)).length ≤ 1000 := by
        have : j = 1 ∨ j = 2 ∨ j = 3 ∨ j = 4 ∨ j = 5 ∨ j = 6 ∨ j = 7 := by omega
        rcases this with rfl | rfl | rfl | rfl | rfl | rfl | rfl <;> decide
      have hd : ([0, 1, 2, 3, 4, 5, 6, 7] : List Int).drop j = (j : Int) :: ([0, 1, 2, 3, 4, 5, 6, 7] : List Int).drop (j + 1) := by
        have : j = 1 ∨ j = 2 ∨ j = 3 ∨ j = 4 ∨ j = 5 ∨ j = 6 ∨ j = 7 := by omega
        rcases this with rfl | rfl | rfl | rfl | rfl | rfl | rfl <;> rfl
      have hgl := prefix_len (g := nameL (j : Int)) (l := l)
      rw [if_pos (by omega), if_pos (by omega), hr, hw1, hd, List.find?_cons, goes_on pre l _ hlen hn]
      by_cases hp : (nameL (j : Int)).isPrefixOf l = true
      · rw [if_pos hp, hp]
        have := hgl hp
        rw [bl_size, show wrap64 ((pre.length : Int) + ((nameL (j : Int)).length : Int)) = ((pre.length + (nameL (j : Int)).length : Nat) : Int) by unfold wrap64; omega]
        rfl
      · rw [if_neg hp, Bool.eq_false_iff.2 hp]
        exact ref07_fault_l0 pre l hlen k (j + 1) (by omega) (by omega) (by omega)
    · obtain rfl : j = 8 := by omega
      rw [if_neg (by omega)]; rfl
theorem ref07_fault_eq (pre l : List UInt8) (hlen : pre.length + l.length ≤ 1000000) (k : Nat) (hk : 20 ≤ k) :
    foolscapref07_fault.f k (bl (pre ++ l)) (pre.length : Int) = some (refT pre.length (fltT7 l)) := by
  unfold foolscapref07_fault.f fltT7
  rw [ref_Names_eq, Option.bind_some]
  exact ref07_fault_l0 pre l hlen k 1 (by omega) (Nat.le_refl _) (by omega)
def naB (c : UInt8) : Bool := ltB c || dg c || c == 46 || c == 95
theorem ref07_Name_l0 (l : List UInt8) (hlen : l.length ≤ 1000000) : ∀ (k j : Nat), l.length - j < k → j ≤ l.length →
    foolscapref07_Name.l0 k (bl l) (j : Int) = some ((l.drop j).all naB)
  | 0, j, h, _ => by omega
  | k + 1, j, h, hj => by
    have hw1 : wrap64 ((j : Int) + 1) = ((j + 1 : Nat) : Int) := by unfold wrap64; omega
    unfold foolscapref07_Name.l0
    rw [bl_size]
    by_cases hjl : j < l.length
    · have hb := bt_at [] l j hjl
      simp only [List.nil_append, List.length_nil, Nat.zero_add] at hb
      rw [if_pos (by omega), if_pos (by omega), hb, ref07_letter_eq, Option.bind_some, ref07_digit_eq, Option.bind_some, hw1, List.drop_eq_getElem_cons hjl, List.all_cons, ref07_Name_l0 l hlen k (j + 1) (by omega) (by omega)]
      generalize l[j] = c
      unfold naB
      cases hl : ltB c with
      | true => simp
      | false =>
        cases hd : dg c with
        | true => simp
        | false =>
          by_cases e46 : c = 46
          · rw [if_neg (by simp), if_neg (by simp), if_pos (by rw [e46]; rfl)]; simp [e46]
          · rw [if_neg (by simp), if_neg (by simp), if_neg (fun e => e46 (u8_of (by simpa using e)))]
            by_cases e95 : c = 95
            · rw [if_pos (by rw [e95]; rfl)]; simp [e95]
            · rw [if_neg (fun e => e95 (u8_of (by simpa using e)))]; simp [e46, e95]
    · rw [if_neg (by omega), List.drop_of_length_le (by omega)]; rfl
theorem Name_j0t (k : Nat) (s : ByteArray) : foolscapref07_Name.j0 (k + 1) s true = some false := by unfold foolscapref07_Name.j0; rfl
theorem Name_j0f (k : Nat) (s : ByteArray) : foolscapref07_Name.j0 (k + 1) s false = foolscapref07_Name.l0 k s 0 := by
  conv => lhs; unfold foolscapref07_Name.j0
  rfl
theorem ref07_Name_eq (l : List UInt8) (hlen : l.length ≤ 1000000) (k : Nat) (hk : l.length + 3 ≤ k) : foolscapref07_Name.f k (bl l) = some (namB l) := by
  obtain ⟨k, rfl⟩ : ∃ k', k = k' + 1 := ⟨k - 1, by omega⟩
  have h0 := ref07_Name_l0 l hlen k 0 (by omega) (Nat.zero_le _)
  rw [List.drop_zero] at h0
  unfold foolscapref07_Name.f namB
  rw [bl_size]
  have hall : l.all (fun c => ltB c || dg c || c == 46 || c == 95) = l.all naB := rfl
  rw [hall]
  cases l with
  | nil =>
    rw [if_pos (by simp), Name_j0t]
    rfl
  | cons c r =>
    by_cases h20 : (c :: r).length ≤ 20
    · rw [if_neg (by simp <;> omega), if_neg (by omega), if_pos (by simp <;> omega), show bt (bl (c :: r)) 0 = (c.toNat : Int) from bt_bl [] c r 0 rfl, ref07_letter_eq, Option.bind_some]
      cases hl : ltB c with
      | false =>
        rw [show (!false) = true from rfl, Name_j0t]
        simp [hl]
      | true =>
        rw [show (!true) = false from rfl, Name_j0f, show (0 : Int) = ((0 : Nat) : Int) from rfl, h0, decide_eq_true (by simp : 1 ≤ (c :: r).length), decide_eq_true h20]
        simp [hl]
    · rw [if_neg (by simp <;> omega), if_pos (by omega), Name_j0t, decide_eq_false h20]
      simp
end Go.Proofs.YtmppnobldhhpjaaGreatDoor.Pr
end
section
namespace Go.Proofs.YtmppnobldhhpjaaGreatDoor.Pr
set_option linter.unusedVariables false
set_option linter.unusedSimpArgs false
open Go.RowKit Go.Proofs.YtmppnobldhhpjaaGreatDoorW.PrintWords Go.Proofs.YtmppnobldhhpjaaGreatDoorW.PrintLast Go.Proofs.YtmppnobldhhpjaaGreatDoorW.PrintMore
theorem letter_j0 (k : Nat) (x : Int) (z : Bool) : foolscapref05_letter.j0 (k + 1) x z = if z = true then (some (((x - 65) % 256) + 1)) else (if x ≥ 97 then (if x ≤ 122 then (some (((x - 97) % 256) + 1)) else (some 0)) else (some 0)) := by
  conv => lhs; unfold foolscapref05_letter.j0
theorem ref05_letter_eq (k : Nat) (hk : 1 ≤ k) (c : UInt8) : foolscapref05_letter.f k (c.toNat : Int) = some ((ltN c : Nat) : Int) := by
  obtain ⟨k, rfl⟩ : ∃ k', k = k' + 1 := ⟨k - 1, by omega⟩
  unfold foolscapref05_letter.f
  rw [letter_j0, letter_j0]
  exact u8_dec (fun c => (if (c.toNat : Int) ≥ 65 then (if (decide ((c.toNat : Int) ≤ 90)) = true then (some ((((c.toNat : Int) - 65) % 256) + 1)) else (if (c.toNat : Int) ≥ 97 then (if (c.toNat : Int) ≤ 122 then (some ((((c.toNat : Int) - 97) % 256) + 1)) else (some 0)) else (some 0))) else (if false = true then (some ((((c.toNat : Int) - 65) % 256) + 1)) else (if (c.toNat : Int) ≥ 97 then (if (c.toNat : Int) ≤ 122 then (some ((((c.toNat : Int) - 97) % 256) + 1)) else (some 0)) else (some 0)))) = some ((ltN c : Nat) : Int)) (by decide +kernel) c
theorem place_letter_eq (c : UInt8) : place_letter.f (c.toNat : Int) = some ((ltN c : Nat) : Int) := u8_dec (fun c => place_letter.f (c.toNat : Int) = some ((ltN c : Nat) : Int)) (by decide +kernel) c
theorem ltN_lt (c : UInt8) : ltN c ≤ 26 := by
  unfold ltN
  split
  · omega
  · split
    · omega
    · omega
theorem colV_snoc (l : List UInt8) (c : UInt8) : colV (l ++ [c]) = 26 * colV l + ltN c := by simp [colV]
theorem colV_lt0 : ∀ (l : List UInt8) (n : Nat), l.foldl (fun n c => 26 * n + ltN c) n + 1 ≤ (n + 1) * 27 ^ l.length
  | [], n => by simp
  | c :: r, n => by
    rw [List.foldl_cons, List.length_cons, Nat.pow_succ]
    have h1 := colV_lt0 r (26 * n + ltN c)
    have h2 := ltN_lt c
    refine Nat.le_trans h1 ?_
    rw [show (n + 1) * (27 ^ r.length * 27) = ((n + 1) * 27) * 27 ^ r.length by rw [Nat.mul_comm (27 ^ r.length), Nat.mul_assoc]]
    exact Nat.mul_le_mul_right _ (by omega)
theorem colV_lt (l : List UInt8) : colV l + 1 ≤ 27 ^ l.length := by
  have := colV_lt0 l 0
  rwa [Nat.zero_add, Nat.one_mul] at this
theorem colV_small {l : List UInt8} (h : l.length ≤ 3) : colV l < 20000 := by
  have h1 := colV_lt l
  have h2 : 27 ^ l.length ≤ 27 ^ 3 := Nat.pow_le_pow_right (by decide) h
  have h3 : (27 : Nat) ^ 3 = 19683 := by decide
  omega
theorem w26 {a b : Nat} (h : 26 * a + b < 20000) : wrap64 ((wrap64 (26 * (a : Int))) + (b : Int)) = ((26 * a + b : Nat) : Int) := by unfold wrap64; omega
theorem w10 {a b : Nat} (h : a < 10000000) (h1 : 48 ≤ b) (h2 : b ≤ 57) : wrap64 ((wrap64 (10 * (a : Int))) + (((b : Int) - 48) % 256)) = ((10 * a + (b - 48) : Nat) : Int) := by unfold wrap64; omega
theorem ref05_Column_l0 (l : List UInt8) (hl : l.length ≤ 3) : ∀ (k j : Nat), l.length - j + 1 < k → j ≤ l.length → (∀ c ∈ l.take j, ltN c ≠ 0) →
    foolscapref05_Column.l0 k (bl l) ((colV (l.take j) : Nat) : Int) (j : Int) = some (if l.any (fun c => ltN c == 0) = true then (0, 5) else if 16384 < colV l then (0, 11) else (((colV l : Nat) : Int), 0))
  | 0, j, h, _, _ => by omega
  | k + 1, j, h, hj, ha => by
    have hw1 : wrap64 ((j : Int) + 1) = ((j + 1 : Nat) : Int) := by unfold wrap64; omega
    unfold foolscapref05_Column.l0
    rw [bl_size]
    by_cases hjl : j < l.length
    · have hb := bt_at [] l j hjl
      simp only [List.nil_append, List.length_nil, Nat.zero_add] at hb
      rw [if_pos (by omega), if_pos (by omega), hb, ref05_letter_eq k (by omega), Option.bind_some, Option.bind_some]
      by_cases hz : ltN l[j] = 0
      · rw [if_pos (by omega), if_pos (List.any_eq_true.2 ⟨l[j], List.getElem_mem hjl, by simp [hz]⟩)]
      · rw [if_neg (by omega), hw1]
        have ht : l.take (j + 1) = l.take j ++ [l[j]] := List.take_succ_eq_append_getElem hjl
        have hc := colV_small (l := l.take (j + 1)) (by rw [List.length_take]; omega)
        rw [ht, colV_snoc] at hc
        have := ref05_Column_l0 l hl k (j + 1) (by omega) (by omega) (by
          rw [ht]
          intro c hm
          rcases List.mem_append.1 hm with h | h
          · exact ha c h
          · rw [List.mem_singleton.1 h]; exact hz)
        rw [ht, colV_snoc] at this
        rw [w26 hc]
        exact this
    · rw [if_neg (by omega)]
      rw [List.take_of_length_le (by omega)] at ha ⊢
      have : l.any (fun c => ltN c == 0) = false := by
        rw [List.any_eq_false]
        intro c hm
        simp [ha c hm]
      rw [this, if_neg (show ¬(false = true) by simp)]
      by_cases h : 16384 < colV l
      · rw [if_pos (by omega), if_pos h]
      · rw [if_neg (by omega), if_neg h]
theorem Col5_j0t (k : Nat) (s : ByteArray) : foolscapref05_Column.j0 (k + 1) s true = some (0, 5) := by
  conv => lhs; unfold foolscapref05_Column.j0
  rfl
theorem Col5_j0f (k : Nat) (s : ByteArray) : foolscapref05_Column.j0 (k + 1) s false = foolscapref05_Column.l0 k s 0 0 := by
  conv => lhs; unfold foolscapref05_Column.j0
  rfl
theorem ref05_Column_eq (l : List UInt8) (hl : l.length ≤ 1000000) (k : Nat) (hk : 10 ≤ k) : foolscapref05_Column.f k (bl l) = some (colL l) := by
  obtain ⟨k, rfl⟩ : ∃ k', k = k' + 1 := ⟨k - 1, by omega⟩
  unfold foolscapref05_Column.f colL
  rw [bl_size]
  by_cases h0 : l.length = 0
  · rw [if_pos (by omega), if_pos (by omega)]
    rw [Col5_j0t]
  · rw [if_neg (by omega)]
    by_cases h3 : 3 < l.length
    · rw [decide_eq_true (by omega), if_pos (.inr (.inl h3))]
      rw [Col5_j0t]
    · rw [decide_eq_false (by omega)]
      rw [Col5_j0f]
      have := ref05_Column_l0 l (by omega) k 0 (by omega) (Nat.zero_le _) (by simp)
      rw [List.take_zero, show ((colV [] : Nat) : Int) = 0 from rfl, show ((0 : Nat) : Int) = 0 from rfl] at this
      rw [this]
      by_cases ha : l.any (fun c => ltN c == 0) = true
      · rw [if_pos ha, if_pos (.inr (.inr ha))]
      · have hc : ¬(l.length < 1 ∨ 3 < l.length ∨ l.any (fun c => ltN c == 0) = true) := by
          rintro (h | h | h)
          · omega
          · omega
          · exact ha h
        rw [if_neg hc, if_neg ha]
theorem place_Column_l0 (l : List UInt8) (hl : l.length ≤ 3) : ∀ (k j : Nat), l.length - j + 1 < k → j ≤ l.length → (∀ c ∈ l.take j, ltN c ≠ 0) →
    place_Column.l0 k (bl l) ((colV (l.take j) : Nat) : Int) (l.length : Int) (j : Int) = some (if l.any (fun c => ltN c == 0) = true then (0, 5) else if 16384 < colV l then (0, 11) else (((colV l : Nat) : Int), 0))
  | 0, j, h, _, _ => by omega
  | k + 1, j, h, hj, ha => by
    have hw1 : wrap64 ((j : Int) + 1) = ((j + 1 : Nat) : Int) := by unfold wrap64; omega
    unfold place_Column.l0
    rw [bl_size]
    by_cases hjl : j < l.length
    · have hb := bt_at [] l j hjl
      simp only [List.nil_append, List.length_nil, Nat.zero_add] at hb
      rw [if_pos (by omega), if_pos (by omega), if_pos (by omega), hb, place_letter_eq, Option.bind_some]
      by_cases hz : ltN l[j] = 0
      · rw [if_pos (by omega), if_pos (List.any_eq_true.2 ⟨l[j], List.getElem_mem hjl, by simp [hz]⟩)]
      · rw [if_neg (by omega), hw1]
        have ht : l.take (j + 1) = l.take j ++ [l[j]] := List.take_succ_eq_append_getElem hjl
        have hc := colV_small (l := l.take (j + 1)) (by rw [List.length_take]; omega)
        rw [ht, colV_snoc] at hc
        have := place_Column_l0 l hl k (j + 1) (by omega) (by omega) (by
          rw [ht]
          intro c hm
          rcases List.mem_append.1 hm with h | h
          · exact ha c h
          · rw [List.mem_singleton.1 h]; exact hz)
        rw [ht, colV_snoc] at this
        rw [w26 hc]
        exact this
    · rw [if_neg (by omega)]
      rw [List.take_of_length_le (by omega)] at ha ⊢
      have : l.any (fun c => ltN c == 0) = false := by
        rw [List.any_eq_false]
        intro c hm
        simp [ha c hm]
      rw [this, if_neg (show ¬(false = true) by simp)]
      by_cases h : 16384 < colV l
      · rw [if_pos (by omega), if_pos h]
      · rw [if_neg (by omega), if_neg h]
theorem ColP_j0t (k : Nat) (s : ByteArray) : place_Column.j0 (k + 1) s true = some (0, 5) := by
  conv => lhs; unfold place_Column.j0
  rfl
theorem ColP_j0f (k : Nat) (s : ByteArray) : place_Column.j0 (k + 1) s false = place_Column.l0 k s 0 (s.size : Int) 0 := by
  conv => lhs; unfold place_Column.j0
  rfl
theorem place_Column_eq (l : List UInt8) (hl : l.length ≤ 1000000) (k : Nat) (hk : 10 ≤ k) : place_Column.f k (bl l) = some (colL l) := by
  obtain ⟨k, rfl⟩ : ∃ k', k = k' + 1 := ⟨k - 1, by omega⟩
  unfold place_Column.f colL
  rw [bl_size]
  by_cases h0 : l.length < 1
  · rw [if_pos (by omega), if_pos (.inl h0)]
    rw [ColP_j0t]
  · rw [if_neg (by omega)]
    by_cases h3 : 3 < l.length
    · rw [decide_eq_true (by omega), if_pos (.inr (.inl h3))]
      rw [ColP_j0t]
    · rw [decide_eq_false (by omega)]
      rw [ColP_j0f]
      have := place_Column_l0 l (by omega) k 0 (by omega) (Nat.zero_le _) (by simp)
      rw [List.take_zero, show ((colV [] : Nat) : Int) = 0 from rfl, show ((0 : Nat) : Int) = 0 from rfl] at this
      rw [bl_size, this]
      by_cases ha : l.any (fun c => ltN c == 0) = true
      · rw [if_pos ha, if_pos (.inr (.inr ha))]
      · have hc : ¬(l.length < 1 ∨ 3 < l.length ∨ l.any (fun c => ltN c == 0) = true) := by
          rintro (h | h | h)
          · omega
          · omega
          · exact ha h
        rw [if_neg hc, if_neg ha]
theorem ref05_dollar_eq (l : List UInt8) (hl : l.length ≤ 1000000) : foolscapref05_dollar.f (bl l) = some (bl (dolL l), dolB l) := by
  unfold foolscapref05_dollar.f dolL dolB
  rw [bl_size]
  cases l with
  | nil => rw [if_neg (by simp)]; rfl
  | cons c r =>
    rw [if_pos (by simp <;> omega), if_pos (by simp <;> omega), show bt (bl (c :: r)) 0 = (c.toNat : Int) from bt_bl [] c r 0 rfl]
    by_cases h : c = 36
    · subst h
      rw [if_pos (by decide), if_pos (by simp <;> omega), bl_extract]
      simp
    · rw [if_neg (fun e => h (u8_of (by simpa using e))), if_neg (by simp [h])]
      simp [h]
abbrev FlC := Int × Int × Bool × Bool × Int
def flC (c : Ce) (e : Int) : FlC := (c.f0.f0, c.f0.f1, c.f1, c.f2, e)
theorem ltN_ltB (c : UInt8) : (ltN c > 0) ↔ (ltB c = true) := u8_dec (fun c => (ltN c > 0) ↔ (ltB c = true)) (by decide +kernel) c
theorem ref05_l1 (fc fr : Bool) (v e : Int) (l : List UInt8) (hl : l.length ≤ 7) : ∀ (k j : Nat), l.length - j < k → j ≤ l.length → (l.take j).all dg = true →
    foolscapref05_Parse.l1 k (bl l) fc v e fr ((dval 0 (l.take j) : Nat) : Int) (j : Int) =
      some (if l.all dg = false then (0, 0, false, false, 5) else if e ≠ 0 ∨ 1048576 < dval 0 l then (0, 0, false, false, 11) else (((dval 0 l : Nat) : Int), v, fr, fc, 0))
  | 0, j, h, _, _ => by omega
  | k + 1, j, h, hj, ha => by
    have hw1 : wrap64 ((j : Int) + 1) = ((j + 1 : Nat) : Int) := by unfold wrap64; omega
    unfold foolscapref05_Parse.l1
    rw [bl_size]
    by_cases hjl : j < l.length
    · have hb := bt_at [] l j hjl
      simp only [List.nil_append, List.length_nil, Nat.zero_add] at hb
      rw [if_pos (by omega), if_pos (by omega), hb]
      have ht : l.take (j + 1) = l.take j ++ [l[j]] := List.take_succ_eq_append_getElem hjl
      have ih := ref05_l1 fc fr v e l hl k (j + 1) (by omega) (by omega)
      have hq := dval_lt (l.take j) ha
      have hq2 : 10 ^ (l.take j).length ≤ 10 ^ 7 := Nat.pow_le_pow_right (by decide) (by rw [List.length_take]; omega)
      have hq3 : (10 : Nat) ^ 7 = 10000000 := by decide
      rw [ht] at ih
      have hm : l[j] ∈ l := List.getElem_mem hjl
      generalize l[j] = c at ih hm
      have hc := c.toNat_lt
      by_cases h1 : 48 ≤ c.toNat
      · rw [if_neg (by omega)]
        by_cases h2 : c.toNat ≤ 57
        · rw [if_neg (by omega), hw1]
          have hd : dg c = true := (dg_iff c).2 ⟨h1, h2⟩
          have := ih (by rw [List.all_append, ha]; simp [hd])
          rw [dval_snoc] at this
          rw [w10 (by omega) h1 h2]
          exact this
        · rw [if_pos (by omega), if_pos]
          exact List.all_eq_false.2 ⟨c, hm, fun h => by have := (dg_iff c).1 h; omega⟩
      · rw [if_pos (by omega), if_pos]
        exact List.all_eq_false.2 ⟨c, hm, fun h => by have := (dg_iff c).1 h; omega⟩
    · rw [if_neg (by omega)]
      rw [List.take_of_length_le (by omega)] at ha ⊢
      rw [ha, if_neg (show ¬(true = false) by simp)]
      by_cases he : e = 0
      · rw [if_pos he]
        by_cases h : 1048576 < dval 0 l
        · rw [if_pos (by omega), if_pos (.inr h)]
        · rw [if_neg (by omega), if_neg (by rintro (q | q) <;> first | exact q he | exact h q)]
      · rw [if_neg he, if_pos (.inl he)]
theorem j2_t (k : Nat) (s : ByteArray) (fc fr : Bool) (v e : Int) : foolscapref05_Parse.j2 (k + 1) s fc v e fr true = some (0, 0, false, false, 5) := by
  conv => lhs; unfold foolscapref05_Parse.j2
  rfl
theorem j2_f (k : Nat) (s : ByteArray) (fc fr : Bool) (v e : Int) : foolscapref05_Parse.j2 (k + 1) s fc v e fr false = foolscapref05_Parse.l1 k s fc v e fr 0 0 := by
  conv => lhs; unfold foolscapref05_Parse.j2
  rfl
theorem ref05_j2 (fc fr : Bool) (v e : Int) (l : List UInt8) (hl : l.length ≤ 7) (k : Nat) (hk : 20 ≤ k) (z : Bool) : foolscapref05_Parse.j2 k (bl l) fc v e fr z =
      some (if z = true ∨ l.all dg = false then (0, 0, false, false, 5) else if e ≠ 0 ∨ 1048576 < dval 0 l then (0, 0, false, false, 11) else (((dval 0 l : Nat) : Int), v, fr, fc, 0)) := by
  obtain ⟨k, rfl⟩ : ∃ k', k = k' + 1 := ⟨k - 1, by omega⟩
  cases z with
  | true => rw [j2_t, if_pos (.inl rfl)]
  | false =>
    rw [j2_f]
    have := ref05_l1 fc fr v e l hl k 0 (by omega) (Nat.zero_le _) rfl
    rw [List.take_zero, dval_nil, show ((0 : Nat) : Int) = 0 from rfl] at this
    rw [this]
    by_cases h : l.all dg = false
    · rw [if_pos h, if_pos (.inr h)]
    · have hc : ¬(false = true ∨ l.all dg = false) := by
        rintro (q | q)
        · cases q
        · exact h q
      rw [if_neg hc, if_neg h]
theorem ref05_j2t (fc fr : Bool) (v e : Int) (s : ByteArray) (k : Nat) (hk : 1 ≤ k) : foolscapref05_Parse.j2 k s fc v e fr true = some (0, 0, false, false, 5) := by
  obtain ⟨k, rfl⟩ : ∃ k', k = k' + 1 := ⟨k - 1, by omega⟩
  exact j2_t k s fc fr v e
def celR (fc : Bool) (ls w2 : List UInt8) : FlC :=
  let w3 := dolL w2
  if (colL ls).2 = 5 ∨ w3.length < 1 ∨ 7 < w3.length ∨ w3.head? = some 48 ∨ w3.all dg = false then (0, 0, false, false, 5)
  else if (colL ls).2 ≠ 0 ∨ 1048576 < dval 0 w3 then (0, 0, false, false, 11)
  else (((dval 0 w3 : Nat) : Int), (colL ls).1, dolB w2, fc, 0)
theorem celR_eq (w : List UInt8) : celR (dolB w) ((dolL w).takeWhile ltB) ((dolL w).dropWhile ltB) = flC (celL w).1 (celL w).2 := by
  unfold celR celL flC
  simp only
  split
  · rfl
  · split <;> rfl
theorem ref05_j1 (fc : Bool) (ls w2 : List UInt8) (hl : (ls ++ w2).length ≤ 1000000) (k : Nat) (hk : 30 ≤ k) :
    foolscapref05_Parse.j1 k (bl (ls ++ w2)) fc (ls.length : Int) = some (celR fc ls w2) := by
  obtain ⟨k, rfl⟩ : ∃ k', k = k' + 1 := ⟨k - 1, by omega⟩
  rw [List.length_append] at hl
  rw [foolscapref05_Parse.j1]
  unfold celR
  have h1 : (bl (ls ++ w2)).extract 0 ((ls.length : Int)).toNat = bl ls := by rw [bl_extract]; simp
  have h2 : (bl (ls ++ w2)).extract ((ls.length : Int)).toNat (bl (ls ++ w2)).size = bl w2 := by
    rw [bl_extract, bl_size, Int.toNat_natCast, List.take_length, List.drop_left' rfl]
  rw [if_pos (by omega), if_pos (by rw [bl_size]; simp; omega), h1, h2, ref05_Column_eq ls (by omega) k (by omega), Option.bind_some]
  by_cases h5 : (colL ls).2 = 5
  · rw [if_pos h5, if_pos (.inl h5)]
  · rw [if_neg h5, ref05_dollar_eq w2 (by omega), Option.bind_some]
    simp only [h5, false_or]
    rw [bl_size]
    have hd : (dolL w2).length ≤ w2.length := by
      unfold dolL
      split
      · rw [List.length_tail]; omega
      · exact Nat.le_refl _
    generalize dolL w2 = w3 at hd
    by_cases h0 : w3.length < 1
    · rw [if_pos (by omega), if_pos (.inl h0), ref05_j2t _ _ _ _ _ _ (by omega)]
    · rw [if_neg (by omega)]
      by_cases h7 : 7 < w3.length
      · rw [if_pos (by omega), if_pos (.inr (.inl h7)), ref05_j2t _ _ _ _ _ _ (by omega)]
      · rw [if_neg (by omega), if_pos (by omega)]
        cases w3 with
        | nil => simp at h0
        | cons c r =>
          rw [show bt (bl (c :: r)) 0 = (c.toNat : Int) from bt_bl [] c r 0 rfl, ref05_j2 _ _ _ _ _ (by omega) k (by omega)]
          have hz : (((c.toNat : Int) == 48) = true) = ((c :: r).head? = some 48) := by
            refine propext ⟨fun e => ?_, fun e => ?_⟩
            · rw [List.head?_cons, u8_of (c := c) (d := 48) (by simpa using e)]
            · rw [List.head?_cons] at e; rw [Option.some.inj e]; rfl
          simp only [hz, h0, h7, false_or]
theorem ref05_l0 (fc : Bool) (l : List UInt8) (hl : l.length ≤ 1000000) : ∀ (k j : Nat), l.length - j + 40 < k → j ≤ (l.takeWhile ltB).length →
    foolscapref05_Parse.l0 k (bl l) fc (j : Int) = some (celR fc (l.takeWhile ltB) (l.dropWhile ltB))
  | 0, j, h, _ => by omega
  | k + 1, j, h, hj => by
    have hle := takeWhile_len (p := ltB) l
    have hw1 : wrap64 ((j : Int) + 1) = ((j + 1 : Nat) : Int) := by unfold wrap64; omega
    have hst := tw_step (p := ltB) l j
    have hsp := tw_len (p := ltB) l j hj
    have end_ : (l.takeWhile ltB).length = j → foolscapref05_Parse.j1 k (bl l) fc (j : Int) = some (celR fc (l.takeWhile ltB) (l.dropWhile ltB)) := fun e => by
      have := ref05_j1 fc (l.takeWhile ltB) (l.dropWhile ltB) (by rw [List.takeWhile_append_dropWhile]; exact hl) k (by omega)
      rw [List.takeWhile_append_dropWhile, e] at this
      exact this
    unfold foolscapref05_Parse.l0
    rw [bl_size]
    by_cases hjl : j < l.length
    · have hb := bt_at [] l j hjl
      simp only [List.nil_append, List.length_nil, Nat.zero_add] at hb
      rw [if_pos (by omega), if_pos (by omega), hb, ref05_letter_eq k (by omega), Option.bind_some]
      have hlt := ltN_ltB l[j]
      by_cases hp : ltB l[j] = true
      · rw [if_pos (by have := hlt.mpr hp; omega), hw1]
        exact ref05_l0 fc l hl k (j + 1) (by omega) (hst hjl hj hp)
      · rw [if_neg (fun e => hp (hlt.mp (by omega)))]
        exact end_ (hsp (fun _ => Bool.eq_false_iff.2 hp))
    · rw [if_neg (by omega)]
      exact end_ (hsp (fun h => absurd h hjl))
theorem ref05_Parse_eq (w : List UInt8) (hl : w.length ≤ 1000000) (k : Nat) (hk : w.length + 41 < k) : foolscapref05_Parse.f k (bl w) = some (flC (celL w).1 (celL w).2) := by
  have hd : (dolL w).length ≤ w.length := by
    unfold dolL
    split
    · rw [List.length_tail]; omega
    · exact Nat.le_refl _
  unfold foolscapref05_Parse.f
  rw [ref05_dollar_eq w hl, Option.bind_some, ← celR_eq]
  exact ref05_l0 (dolB w) (dolL w) (by omega) k 0 (by omega) (Nat.zero_le _)
end Go.Proofs.YtmppnobldhhpjaaGreatDoor.Pr
end
