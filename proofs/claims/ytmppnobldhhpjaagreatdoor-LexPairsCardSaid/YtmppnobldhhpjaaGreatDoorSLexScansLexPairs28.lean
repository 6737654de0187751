/-
  Lemmas for the law LexScansLexPairs.
-/
import Derived.Test.YtmppnobldhhpjaaGreatDoorSLexScansLexPairs10
import Derived.Test.YtmppnobldhhpjaaGreatDoorSLexScansLexPairs27
section
namespace Go.Proofs.YtmppnobldhhpjaaGreatDoor.Pr
set_option linter.unusedVariables false
set_option linter.unusedSimpArgs false
open Go.RowKit Go.Proofs.YtmppnobldhhpjaaGreatDoorW.PrintWords Go.Proofs.YtmppnobldhhpjaaGreatDoorW.PrintLast Go.Proofs.YtmppnobldhhpjaaGreatDoorW.PrintMore
abbrev CeA (c : Ce) : Array Value := #[.int .i64 c.f0.f0, .int .i64 c.f0.f1, .bool c.f1, .bool c.f2]
theorem fr_one {p : UInt8 → Bool} (l : List UInt8) : frL 1 p l = (match l with | [] => [] | c :: _ => if p c = true then [c] else []) := by
  cases l with
  | nil => rfl
  | cons c r =>
    unfold frL
    simp only [List.take_succ_cons, List.take_zero]
    by_cases h : p c = true
    · rw [List.takeWhile_cons_of_pos h, if_pos h]; rfl
    · rw [List.takeWhile_cons_of_neg h, if_neg h]
theorem fr_dol (l : List UInt8) : (frL 1 d36 l = []) = (dolB l = false) := by
  rw [fr_one]
  cases l with
  | nil => simp [dolB]
  | cons c r =>
    unfold dolB d36
    by_cases h : c = 36
    · subst h; simp
    · simp [h]
theorem rs_dol (l : List UInt8) : rsL 1 d36 l = dolL l := by
  unfold rsL
  rw [fr_one]
  cases l with
  | nil => rfl
  | cons c r =>
    unfold dolL d36
    by_cases h : c = 36
    · subst h; simp
    · simp [h]
theorem fr_all {p : UInt8 → Bool} (l : List UInt8) (n : Nat) (h : l.length ≤ n) : frL n p l = l.takeWhile p := by
  unfold frL
  rw [List.take_of_length_le h]
theorem rs_all {p : UInt8 → Bool} (l : List UInt8) (n : Nat) (h : l.length ≤ n) : rsL n p l = l.dropWhile p := by
  unfold rsL
  rw [fr_all l n h, tw_drop]
theorem dolL_len (l : List UInt8) : (dolL l).length ≤ l.length := by
  unfold dolL
  split
  · rw [List.length_tail]; omega
  · exact Nat.le_refl _
theorem dropWhile_len {p : UInt8 → Bool} (l : List UInt8) : (l.dropWhile p).length ≤ l.length := by
  have := congrArg List.length (List.takeWhile_append_dropWhile (p := p) (l := l))
  simp only [List.length_append] at this
  omega
theorem tw_all {p : UInt8 → Bool} : ∀ l : List UInt8, l.all p = true → l.takeWhile p = l
  | [], _ => rfl
  | c :: r, h => by
    rw [List.all_cons, Bool.and_eq_true] at h
    rw [List.takeWhile_cons_of_pos h.1, tw_all r h.2]
theorem all_tw {p : UInt8 → Bool} : ∀ l : List UInt8, l.takeWhile p = l → l.all p = true
  | [], _ => rfl
  | c :: r, h => by
    by_cases hc : p c = true
    · rw [List.takeWhile_cons_of_pos hc] at h
      rw [List.all_cons, hc, all_tw r (List.cons.inj h).2]; rfl
    · rw [List.takeWhile_cons_of_neg hc] at h; cases h
theorem cel_test (w3 : List UInt8) : ((w3.takeWhile dg) = [] ∨ 7 < (w3.takeWhile dg).length ∨ (w3.takeWhile dg).head? = some 48 ∨ w3.dropWhile dg ≠ []) ↔ (w3.length < 1 ∨ 7 < w3.length ∨ w3.head? = some 48 ∨ w3.all dg = false) := by
  by_cases h : w3.all dg = true
  · have h1 : w3.takeWhile dg = w3 := tw_all w3 h
    have h2 : w3.dropWhile dg = [] := by
      have := List.takeWhile_append_dropWhile (p := dg) (l := w3)
      rw [h1] at this
      exact List.append_right_eq_self.1 this
    rw [h1, h2, h]
    cases w3 with
    | nil => simp
    | cons c r => simp
  · have h2 : w3.dropWhile dg ≠ [] := fun e => h (by
      have := List.takeWhile_append_dropWhile (p := dg) (l := w3)
      rw [e, List.append_nil] at this
      exact all_tw w3 this)
    exact iff_of_true (.inr (.inr (.inr h2))) (.inr (.inr (.inr (Bool.eq_false_iff.2 h))))
theorem decFrom_ok (l : List UInt8) (h : l.all dg = true) : ∀ acc, Lib.decFrom acc l = some (dval acc l) := by
  induction l with
  | nil => intro acc; rfl
  | cons c r ih =>
    intro acc
    simp only [List.all_cons, Bool.and_eq_true] at h
    have h2 := (dg_iff c).1 h.1
    have hv : Lib.digitVal c = some (c.toNat - 48) := by
      unfold Lib.digitVal
      first | rw [if_pos h2] | (rw [if_pos (by simpa using h2)]) | (simp [h2])
    rw [Lib.decFrom, hv, dval_cons]
    first | (simp only [Option.bind_some]; rw [Nat.mul_comm acc 10]; exact ih h.2 _) | (simp only []; rw [Nat.mul_comm acc 10]; exact ih h.2 _) | exact ih h.2 _
theorem atoi_ok (l : List UInt8) (h : l.all dg = true) (h0 : l ≠ []) : Lib.atoi l = some ((dval 0 l : Nat) : Int) := by
  cases l with
  | nil => exact absurd rfl h0
  | cons c r =>
    have hc := h
    simp only [List.all_cons, Bool.and_eq_true] at hc
    have h2 := (dg_iff c).1 hc.1
    have e1 : (c == 45) = false := by rw [beq_eq_false_iff_ne]; intro e; rw [e] at h2; exact absurd h2.1 (by decide)
    have e2 : (c == 43) = false := by rw [beq_eq_false_iff_ne]; intro e; rw [e] at h2; exact absurd h2.1 (by decide)
    unfold Lib.atoi Lib.decNat
    simp only [e1, e2]
    first | (rw [decFrom_ok (c :: r) h 0]; rfl) | (simp [decFrom_ok (c :: r) h 0])
theorem cut_next {w W W2 : World} {b : Nat} {s s' : ByteArray} (hB : Below w.heap.size w W) (hbw : w.heap.size < b) (D : W.heap[b]? = some (.cells #[.string s] 9 (0, 0))) {cs : Array Value} {t : TypeId} (E : W.heap[w.heap.size]? = some (.cells cs t (0, 0))) (hb : Below W.heap.size (W.setCell ⟨b, 0, none⟩ (.string s')) W2) :
    Below w.heap.size w W2 ∧ W2.heap[b]? = some (.cells #[.string s'] 9 (0, 0)) ∧ W2.heap[w.heap.size]? = some (.cells cs t (0, 0)) := by
  have h1 := blk_lt D
  refine ⟨(hB.setCell (p := ⟨b, 0, none⟩) (Nat.le_of_lt hbw) _).trans (hb.mono hB.size), (hb.block b h1).trans (blk_put D 0 _ rfl), (hb.block _ (by omega)).trans (blk_far (p := ⟨b, 0, none⟩) E (by show w.heap.size ≠ b; omega) _)⟩
def w3L (l : List UInt8) : List UInt8 := dolL ((dolL l).dropWhile ltB)
theorem celL_5 (l : List UInt8) (h : (colL ((dolL l).takeWhile ltB)).2 = 5 ∨ ((w3L l).takeWhile dg) = [] ∨ 7 < ((w3L l).takeWhile dg).length ∨ ((w3L l).takeWhile dg).head? = some 48 ∨ (w3L l).dropWhile dg ≠ []) : celL l = (ceZ, 5) := by
  unfold celL
  simp only
  rw [if_pos]
  exact h.imp_right (cel_test (w3L l)).1
theorem celL_no5 (l : List UInt8) (h : ¬((colL ((dolL l).takeWhile ltB)).2 = 5 ∨ ((w3L l).takeWhile dg) = [] ∨ 7 < ((w3L l).takeWhile dg).length ∨ ((w3L l).takeWhile dg).head? = some 48 ∨ (w3L l).dropWhile dg ≠ [])) :
    celL l = (if (colL ((dolL l).takeWhile ltB)).2 ≠ 0 ∨ 1048576 < dval 0 ((w3L l).takeWhile dg) then (ceZ, 11) else (⟨⟨(dval 0 ((w3L l).takeWhile dg) : Nat), (colL ((dolL l).takeWhile ltB)).1⟩, dolB ((dolL l).dropWhile ltB), dolB l⟩, 0)) := by
  have h2 : ¬((colL ((dolL l).takeWhile ltB)).2 = 5 ∨ (w3L l).length < 1 ∨ 7 < (w3L l).length ∨ (w3L l).head? = some 48 ∨ (w3L l).all dg = false) := fun e => h (e.imp_right (cel_test (w3L l)).2)
  have h3 : (w3L l).all dg = true := by
    cases ha : (w3L l).all dg with
    | true => rfl
    | false => exact absurd (.inr (.inr (.inr (.inr ha)))) h2
  rw [tw_all _ h3]
  unfold w3L at h2 ⊢
  unfold celL
  simp only
  rw [if_neg h2]
theorem head_get (l : List UInt8) (h : 0 < l.length) : l.head? = some (l[0]'h) := by
  cases l with
  | nil => simp at h
  | cons c r => rfl
theorem isE (l : List UInt8) : (bl l).toList.isEmpty = l.isEmpty := by rw [bl_toList]
theorem tw_mem {p : UInt8 → Bool} : ∀ {l : List UInt8} {c : UInt8}, c ∈ l.takeWhile p → p c = true
  | [], c, h => by simp at h
  | d :: r, c, h => by
    by_cases hd : p d = true
    · rw [List.takeWhile_cons_of_pos hd] at h
      rcases List.mem_cons.1 h with rfl | h
      · exact hd
      · exact tw_mem h
    · rw [List.takeWhile_cons_of_neg hd] at h; cases h
set_option maxHeartbeats 8000000 in
set_option maxRecDepth 100000 in
theorem parse_a (l : List UInt8) (w : World) (hlen : l.length ≤ 1024) (HC0 : (colL ((dolL l).takeWhile ltB)).2 = 5) : Calls Tryz.prog 48 #[.string (bl l)] w fun e w' => e = .returned (.tuple #[.agg (CeA (celL l).1), .int .i64 (celL l).2]) ∧ Below w.heap.size w w' := by
  have hsz : (bl l).size = l.length := bl_size l
  have h1 := dolL_len l
  have h2 := dropWhile_len (p := ltB) (dolL l)
  have h3 := dolL_len ((dolL l).dropWhile ltB)
  have h4 := dropWhile_len (p := dg) (w3L l)
  have h5 := takeWhile_len (p := dg) (w3L l)
  have h6 := takeWhile_len (p := ltB) (dolL l)
  have C1 := Aside0.mk fun W hb => cut_dol l 1 W (w.heap.size + 1) (by omega) (by omega) hb
  have C2 := Aside0.mk fun W hb => cut_let (dolL l) l.length W (w.heap.size + 1) (by omega) (by omega) hb
  have C3 := Aside0.mk fun W hb => cut_dol ((dolL l).dropWhile ltB) 1 W (w.heap.size + 1) (by omega) (by omega) hb
  have C4 := Aside0.mk fun W hb => cut_dig (w3L l) l.length W (w.heap.size + 1) (by unfold w3L; omega) (by omega) hb
  have C5 := Aside0.mk fun W hb => cut_all ((w3L l).dropWhile dg) 1 W (w.heap.size + 1) (by unfold w3L at h4 ⊢; omega) (by omega) hb
  rw [rs_dol] at C1 C3
  rw [fr_all _ _ (by omega), rs_all _ _ (by omega)] at C2
  rw [fr_all _ _ (by unfold w3L; omega), rs_all _ _ (by unfold w3L; omega)] at C4
  have HK := Aside0.mk (place_Column_eq ((dolL l).takeWhile ltB) (by omega) 10 (by omega))
  have e1 : (bl (frL 1 d36 l)).toList.isEmpty = !(dolB l) := by
    rw [isE]
    have := fr_dol l
    cases hd : dolB l with
    | false => rw [hd] at this; rw [this.mpr rfl]; rfl
    | true => rw [hd] at this; cases hf : frL 1 d36 l with
      | nil => rw [hf] at this; exact absurd (this.mp rfl) (by simp)
      | cons c r => rfl
  have e3 : (bl (frL 1 d36 ((dolL l).dropWhile ltB))).toList.isEmpty = !(dolB ((dolL l).dropWhile ltB)) := by
    rw [isE]
    have := fr_dol ((dolL l).dropWhile ltB)
    cases hd : dolB ((dolL l).dropWhile ltB) with
    | false => rw [hd] at this; rw [this.mpr rfl]; rfl
    | true => rw [hd] at this; cases hf : frL 1 d36 ((dolL l).dropWhile ltB) with
      | nil => rw [hf] at this; exact absurd (this.mp rfl) (by simp)
      | cons c r => rfl
  obtain ⟨x4, hx4⟩ : ∃ x, x = bl ((w3L l).takeWhile dg) := ⟨_, rfl⟩
  have e4 : x4.toList.isEmpty = ((w3L l).takeWhile dg).isEmpty := by rw [hx4]; exact isE _
  have e5 : (bl (frL 1 yesB ((w3L l).dropWhile dg))).toList.isEmpty = ((w3L l).dropWhile dg).isEmpty := by
    rw [isE, fr_one]
    cases (w3L l).dropWhile dg <;> rfl
  have s4 : x4.size = ((w3L l).takeWhile dg).length := by rw [hx4]; exact bl_size _
  have g4 : ∀ (h : 0 < ((w3L l).takeWhile dg).length) (hh : 0 < x4.size), x4[0]'hh = ((w3L l).takeWhile dg)[0] := by
    subst hx4
    exact fun h hh => get0 _ 0 h hh
  have hat : ((w3L l).takeWhile dg).all dg = true := List.all_eq_true.2 (fun c hc => tw_mem hc)
  have HA := Aside0.mk (show ((w3L l).takeWhile dg) ≠ [] → ((w3L l).takeWhile dg).length ≤ 7 → strconv_Atoi.f x4 = some (((dval 0 ((w3L l).takeWhile dg) : Nat) : Int), none) from fun hn h7 => by
    rw [hx4]
    unfold strconv_Atoi.f
    rw [if_pos (by rw [bl_size]; omega), bl_data, atoi_ok _ hat hn])
  have HE5 := Aside0.mk (celL_5 l)
  have HN5 := Aside0.mk (celL_no5 l)
  obtain ⟨cv, ce, hc⟩ : ∃ cv ce, colL ((dolL l).takeWhile ltB) = (cv, ce) := ⟨_, _, rfl⟩
  rw [hc] at HK HE5 HN5 HC0
  simp only at HC0
  rw [← hx4] at C4
  clear hc h1 h2 h3 h4 hat hx4
  generalize celL l = res at HE5 HN5 ⊢
  generalize bl (frL 1 d36 l) = x1 at C1 e1
  generalize bl (frL 1 d36 ((dolL l).dropWhile ltB)) = x3 at C3 e3
  generalize bl ((dolL l).takeWhile ltB) = x2 at C2 HK
  generalize bl (frL 1 yesB ((w3L l).dropWhile dg)) = x5 at C5 e5
  generalize dolB l = b1 at e1 HN5
  generalize dolB ((dolL l).dropWhile ltB) = b3 at e3 HN5
  subst HC0
  have HR := Aside0.mk (HE5.out (.inl rfl))
  clear HE5 HN5 HA
  go_enter Tryz.func48, Tryz.ntmps48
  go_wp2_with (first
    | (go_at_call 65; (with_reducible refine (cutter_calls _ _).mono ?_); rintro e w1 ⟨rfl, rfl⟩; have D0 := Aside0.mk (newBlk2 w (.cells #[.int .i64 0, .int .i64 0, .bool false, .bool false] 43) (.cells #[.string (bl l)] 9)); have E0 := Aside0.mk (blk_alloc (newBlk w (.cells #[.int .i64 0, .int .i64 0, .bool false, .bool false] 43)) (.cells #[.string (bl l)] 9)); have B0 := Aside0.mk (bel2 w (.cells #[.int .i64 0, .int .i64 0, .bool false, .bool false] 43) (.cells #[.string (bl l)] 9)))
    | (go_at_call 85; refine (C1.out _ D0.out).mono ?_; rintro e w2 ⟨rfl, hb⟩; have N_ := cut_next B0.out (Nat.lt_succ_self _) D0.out E0.out hb; have B1 := Aside0.mk N_.1; have D1 := Aside0.mk N_.2.1; have E1 := Aside0.mk N_.2.2; clear C1 D0 E0 B0 N_ hb)
    | (go_at_call 85; refine (C2.out _ D1.out).mono ?_; rintro e w3 ⟨rfl, hb⟩; have N_ := cut_next B1.out (Nat.lt_succ_self _) D1.out E1.out hb; have B2 := Aside0.mk N_.1; have D2 := Aside0.mk N_.2.1; have E2 := Aside0.mk N_.2.2; clear C2 D1 E1 B1 N_ hb)
    | (go_at_call 85; refine (C3.out _ D2.out).mono ?_; rintro e w4 ⟨rfl, hb⟩; have N_ := cut_next B2.out (Nat.lt_succ_self _) D2.out E2.out hb; have B3 := Aside0.mk N_.1; have D3 := Aside0.mk N_.2.1; have E3 := Aside0.mk N_.2.2; clear C3 D2 E2 B2 N_ hb)
    | (go_at_call 85; refine (C4.out _ D3.out).mono ?_; rintro e w5 ⟨rfl, hb⟩; have N_ := cut_next B3.out (Nat.lt_succ_self _) D3.out E3.out hb; have B4 := Aside0.mk N_.1; have D4 := Aside0.mk N_.2.1; have E4 := Aside0.mk N_.2.2; clear C4 D3 E3 B3 N_ hb)
    | (go_at_call 85; refine (C5.out _ D4.out).mono ?_; rintro e w6 ⟨rfl, hb⟩; have N_ := cut_next B4.out (Nat.lt_succ_self _) D4.out E4.out hb; have B5 := Aside0.mk N_.1; have D5 := Aside0.mk N_.2.1; have E5 := Aside0.mk N_.2.2; clear C5 D4 E4 B4 N_ hb)
    | (go_at_call 71; refine (place_Column.calls 10 _ _ _ _ HK.out).mono ?_; rintro e w7 ⟨rfl, hd⟩; have BD := Aside0.mk (below_step B5.out (drawn_below hd)); have ED := Aside0.mk (blk_below E5.out (drawn_below hd)); clear hd)
    | ((with_reducible refine gate_store (t := 43) (p := 2) (v := .tmp 62) rfl ?_); refine wpRowSt rfl 43 (.tmp 2) (.tmp 62) rfl (w.heap.size) (CeA ceZ) rfl rfl 43 _ ED.out (by kernel_rfl) rfl rfl ?_))
  refine bodyPost_ret (results_ct rfl _ _ (w.heap.size) 43 (CeA ceZ) (0, 0) _ rfl (setRow_heap _ _ _ _ _ _ ED.out) Tryz.underlying43 rfl (by kernel_rfl)) rfl ?_
  rw [HR.out]
  exact ⟨rfl, rowBelow BD.out (Nat.le_refl _) _⟩
set_option maxHeartbeats 8000000 in
set_option maxRecDepth 100000 in
theorem parse_b (l : List UInt8) (w : World) (hlen : l.length ≤ 1024) (HC0 : ¬(colL ((dolL l).takeWhile ltB)).2 = 5) (hd : ((w3L l).takeWhile dg) = []) : Calls Tryz.prog 48 #[.string (bl l)] w fun e w' => e = .returned (.tuple #[.agg (CeA (celL l).1), .int .i64 (celL l).2]) ∧ Below w.heap.size w w' := by
  have hsz : (bl l).size = l.length := bl_size l
  have h1 := dolL_len l
  have h2 := dropWhile_len (p := ltB) (dolL l)
  have h3 := dolL_len ((dolL l).dropWhile ltB)
  have h4 := dropWhile_len (p := dg) (w3L l)
  have h5 := takeWhile_len (p := dg) (w3L l)
  have h6 := takeWhile_len (p := ltB) (dolL l)
  have C1 := Aside0.mk fun W hb => cut_dol l 1 W (w.heap.size + 1) (by omega) (by omega) hb
  have C2 := Aside0.mk fun W hb => cut_let (dolL l) l.length W (w.heap.size + 1) (by omega) (by omega) hb
  have C3 := Aside0.mk fun W hb => cut_dol ((dolL l).dropWhile ltB) 1 W (w.heap.size + 1) (by omega) (by omega) hb
  have C4 := Aside0.mk fun W hb => cut_dig (w3L l) l.length W (w.heap.size + 1) (by unfold w3L; omega) (by omega) hb
  have C5 := Aside0.mk fun W hb => cut_all ((w3L l).dropWhile dg) 1 W (w.heap.size + 1) (by unfold w3L at h4 ⊢; omega) (by omega) hb
  rw [rs_dol] at C1 C3
  rw [fr_all _ _ (by omega), rs_all _ _ (by omega)] at C2
  rw [fr_all _ _ (by unfold w3L; omega), rs_all _ _ (by unfold w3L; omega)] at C4
  have HK := Aside0.mk (place_Column_eq ((dolL l).takeWhile ltB) (by omega) 10 (by omega))
  have e1 : (bl (frL 1 d36 l)).toList.isEmpty = !(dolB l) := by
    rw [isE]
    have := fr_dol l
    cases hd : dolB l with
    | false => rw [hd] at this; rw [this.mpr rfl]; rfl
    | true => rw [hd] at this; cases hf : frL 1 d36 l with
      | nil => rw [hf] at this; exact absurd (this.mp rfl) (by simp)
      | cons c r => rfl
  have e3 : (bl (frL 1 d36 ((dolL l).dropWhile ltB))).toList.isEmpty = !(dolB ((dolL l).dropWhile ltB)) := by
    rw [isE]
    have := fr_dol ((dolL l).dropWhile ltB)
    cases hd : dolB ((dolL l).dropWhile ltB) with
    | false => rw [hd] at this; rw [this.mpr rfl]; rfl
    | true => rw [hd] at this; cases hf : frL 1 d36 ((dolL l).dropWhile ltB) with
      | nil => rw [hf] at this; exact absurd (this.mp rfl) (by simp)
      | cons c r => rfl
  obtain ⟨x4, hx4⟩ : ∃ x, x = bl ((w3L l).takeWhile dg) := ⟨_, rfl⟩
  have e4 : x4.toList.isEmpty = ((w3L l).takeWhile dg).isEmpty := by rw [hx4]; exact isE _
  have e5 : (bl (frL 1 yesB ((w3L l).dropWhile dg))).toList.isEmpty = ((w3L l).dropWhile dg).isEmpty := by
    rw [isE, fr_one]
    cases (w3L l).dropWhile dg <;> rfl
  have s4 : x4.size = ((w3L l).takeWhile dg).length := by rw [hx4]; exact bl_size _
  have g4 : ∀ (h : 0 < ((w3L l).takeWhile dg).length) (hh : 0 < x4.size), x4[0]'hh = ((w3L l).takeWhile dg)[0] := by
    subst hx4
    exact fun h hh => get0 _ 0 h hh
  have hat : ((w3L l).takeWhile dg).all dg = true := List.all_eq_true.2 (fun c hc => tw_mem hc)
  have HA := Aside0.mk (show ((w3L l).takeWhile dg) ≠ [] → ((w3L l).takeWhile dg).length ≤ 7 → strconv_Atoi.f x4 = some (((dval 0 ((w3L l).takeWhile dg) : Nat) : Int), none) from fun hn h7 => by
    rw [hx4]
    unfold strconv_Atoi.f
    rw [if_pos (by rw [bl_size]; omega), bl_data, atoi_ok _ hat hn])
  have HE5 := Aside0.mk (celL_5 l)
  have HN5 := Aside0.mk (celL_no5 l)
  obtain ⟨cv, ce, hc⟩ : ∃ cv ce, colL ((dolL l).takeWhile ltB) = (cv, ce) := ⟨_, _, rfl⟩
  rw [hc] at HK HE5 HN5 HC0
  simp only at HC0
  rw [← hx4] at C4
  clear hc h1 h2 h3 h4 hat hx4
  generalize celL l = res at HE5 HN5 ⊢
  generalize bl (frL 1 d36 l) = x1 at C1 e1
  generalize bl (frL 1 d36 ((dolL l).dropWhile ltB)) = x3 at C3 e3
  generalize bl ((dolL l).takeWhile ltB) = x2 at C2 HK
  generalize bl (frL 1 yesB ((w3L l).dropWhile dg)) = x5 at C5 e5
  generalize dolB l = b1 at e1 HN5
  generalize dolB ((dolL l).dropWhile ltB) = b3 at e3 HN5
  have n5 : (ce == 5) = false := beq_eq_false_iff_ne.2 HC0
  have HR := Aside0.mk (HE5.out (.inr (.inl hd)))
  clear HE5 HN5 HA
  rw [hd] at e4
  have e4b : x4.toList.isEmpty = true := e4
  clear e4
  go_enter Tryz.func48, Tryz.ntmps48
  go_wp2_with (first
    | (go_at_call 65; (with_reducible refine (cutter_calls _ _).mono ?_); rintro e w1 ⟨rfl, rfl⟩; have D0 := Aside0.mk (newBlk2 w (.cells #[.int .i64 0, .int .i64 0, .bool false, .bool false] 43) (.cells #[.string (bl l)] 9)); have E0 := Aside0.mk (blk_alloc (newBlk w (.cells #[.int .i64 0, .int .i64 0, .bool false, .bool false] 43)) (.cells #[.string (bl l)] 9)); have B0 := Aside0.mk (bel2 w (.cells #[.int .i64 0, .int .i64 0, .bool false, .bool false] 43) (.cells #[.string (bl l)] 9)))
    | (go_at_call 85; refine (C1.out _ D0.out).mono ?_; rintro e w2 ⟨rfl, hb⟩; have N_ := cut_next B0.out (Nat.lt_succ_self _) D0.out E0.out hb; have B1 := Aside0.mk N_.1; have D1 := Aside0.mk N_.2.1; have E1 := Aside0.mk N_.2.2; clear C1 D0 E0 B0 N_ hb)
    | (go_at_call 85; refine (C2.out _ D1.out).mono ?_; rintro e w3 ⟨rfl, hb⟩; have N_ := cut_next B1.out (Nat.lt_succ_self _) D1.out E1.out hb; have B2 := Aside0.mk N_.1; have D2 := Aside0.mk N_.2.1; have E2 := Aside0.mk N_.2.2; clear C2 D1 E1 B1 N_ hb)
    | (go_at_call 85; refine (C3.out _ D2.out).mono ?_; rintro e w4 ⟨rfl, hb⟩; have N_ := cut_next B2.out (Nat.lt_succ_self _) D2.out E2.out hb; have B3 := Aside0.mk N_.1; have D3 := Aside0.mk N_.2.1; have E3 := Aside0.mk N_.2.2; clear C3 D2 E2 B2 N_ hb)
    | (go_at_call 85; refine (C4.out _ D3.out).mono ?_; rintro e w5 ⟨rfl, hb⟩; have N_ := cut_next B3.out (Nat.lt_succ_self _) D3.out E3.out hb; have B4 := Aside0.mk N_.1; have D4 := Aside0.mk N_.2.1; have E4 := Aside0.mk N_.2.2; clear C4 D3 E3 B3 N_ hb)
    | (go_at_call 85; refine (C5.out _ D4.out).mono ?_; rintro e w6 ⟨rfl, hb⟩; have N_ := cut_next B4.out (Nat.lt_succ_self _) D4.out E4.out hb; have B5 := Aside0.mk N_.1; have D5 := Aside0.mk N_.2.1; have E5 := Aside0.mk N_.2.2; clear C5 D4 E4 B4 N_ hb)
    | (go_at_call 71; refine (place_Column.calls 10 _ _ _ _ HK.out).mono ?_; rintro e w7 ⟨rfl, hd⟩; have BD := Aside0.mk (below_step B5.out (drawn_below hd)); have ED := Aside0.mk (blk_below E5.out (drawn_below hd)); clear hd)
    | ((with_reducible refine gate_store (t := 43) (p := 2) (v := .tmp 62) rfl ?_); refine wpRowSt rfl 43 (.tmp 2) (.tmp 62) rfl (w.heap.size) (CeA ceZ) rfl rfl 43 _ ED.out (by kernel_rfl) rfl rfl ?_))
  refine bodyPost_ret (results_ct rfl _ _ (w.heap.size) 43 (CeA ceZ) (0, 0) _ rfl (setRow_heap _ _ _ _ _ _ ED.out) Tryz.underlying43 rfl (by kernel_rfl)) rfl ?_
  rw [HR.out]
  exact ⟨rfl, rowBelow BD.out (Nat.le_refl _) _⟩
set_option maxHeartbeats 8000000 in
set_option maxRecDepth 100000 in
theorem parse_c (l : List UInt8) (w : World) (hlen : l.length ≤ 1024) (HC0 : ¬(colL ((dolL l).takeWhile ltB)).2 = 5) (hd : ((w3L l).takeWhile dg) ≠ []) (h7 : 7 < ((w3L l).takeWhile dg).length) : Calls Tryz.prog 48 #[.string (bl l)] w fun e w' => e = .returned (.tuple #[.agg (CeA (celL l).1), .int .i64 (celL l).2]) ∧ Below w.heap.size w w' := by
  have hsz : (bl l).size = l.length := bl_size l
  have h1 := dolL_len l
  have h2 := dropWhile_len (p := ltB) (dolL l)
  have h3 := dolL_len ((dolL l).dropWhile ltB)
  have h4 := dropWhile_len (p := dg) (w3L l)
  have h5 := takeWhile_len (p := dg) (w3L l)
  have h6 := takeWhile_len (p := ltB) (dolL l)
  have C1 := Aside0.mk fun W hb => cut_dol l 1 W (w.heap.size + 1) (by omega) (by omega) hb
  have C2 := Aside0.mk fun W hb => cut_let (dolL l) l.length W (w.heap.size + 1) (by omega) (by omega) hb
  have C3 := Aside0.mk fun W hb => cut_dol ((dolL l).dropWhile ltB) 1 W (w.heap.size + 1) (by omega) (by omega) hb
  have C4 := Aside0.mk fun W hb => cut_dig (w3L l) l.length W (w.heap.size + 1) (by unfold w3L; omega) (by omega) hb
  have C5 := Aside0.mk fun W hb => cut_all ((w3L l).dropWhile dg) 1 W (w.heap.size + 1) (by unfold w3L at h4 ⊢; omega) (by omega) hb
  rw [rs_dol] at C1 C3
  rw [fr_all _ _ (by omega), rs_all _ _ (by omega)] at C2
  rw [fr_all _ _ (by unfold w3L; omega), rs_all _ _ (by unfold w3L; omega)] at C4
  have HK := Aside0.mk (place_Column_eq ((dolL l).takeWhile ltB) (by omega) 10 (by omega))
  have e1 : (bl (frL 1 d36 l)).toList.isEmpty = !(dolB l) := by
    rw [isE]
    have := fr_dol l
    cases hd : dolB l with
    | false => rw [hd] at this; rw [this.mpr rfl]; rfl
    | true => rw [hd] at this; cases hf : frL 1 d36 l with
      | nil => rw [hf] at this; exact absurd (this.mp rfl) (by simp)
      | cons c r => rfl
  have e3 : (bl (frL 1 d36 ((dolL l).dropWhile ltB))).toList.isEmpty = !(dolB ((dolL l).dropWhile ltB)) := by
    rw [isE]
    have := fr_dol ((dolL l).dropWhile ltB)
    cases hd : dolB ((dolL l).dropWhile ltB) with
    | false => rw [hd] at this; rw [this.mpr rfl]; rfl
    | true => rw [hd] at this; cases hf : frL 1 d36 ((dolL l).dropWhile ltB) with
      | nil => rw [hf] at this; exact absurd (this.mp rfl) (by simp)
      | cons c r => rfl
  obtain ⟨x4, hx4⟩ : ∃ x, x = bl ((w3L l).takeWhile dg) := ⟨_, rfl⟩
  have e4 : x4.toList.isEmpty = ((w3L l).takeWhile dg).isEmpty := by rw [hx4]; exact isE _
  have e5 : (bl (frL 1 yesB ((w3L l).dropWhile dg))).toList.isEmpty = ((w3L l).dropWhile dg).isEmpty := by
    rw [isE, fr_one]
    cases (w3L l).dropWhile dg <;> rfl
  have s4 : x4.size = ((w3L l).takeWhile dg).length := by rw [hx4]; exact bl_size _
  have g4 : ∀ (h : 0 < ((w3L l).takeWhile dg).length) (hh : 0 < x4.size), x4[0]'hh = ((w3L l).takeWhile dg)[0] := by
    subst hx4
    exact fun h hh => get0 _ 0 h hh
  have hat : ((w3L l).takeWhile dg).all dg = true := List.all_eq_true.2 (fun c hc => tw_mem hc)
  have HA := Aside0.mk (show ((w3L l).takeWhile dg) ≠ [] → ((w3L l).takeWhile dg).length ≤ 7 → strconv_Atoi.f x4 = some (((dval 0 ((w3L l).takeWhile dg) : Nat) : Int), none) from fun hn h7 => by
    rw [hx4]
    unfold strconv_Atoi.f
    rw [if_pos (by rw [bl_size]; omega), bl_data, atoi_ok _ hat hn])
  have HE5 := Aside0.mk (celL_5 l)
  have HN5 := Aside0.mk (celL_no5 l)
  obtain ⟨cv, ce, hc⟩ : ∃ cv ce, colL ((dolL l).takeWhile ltB) = (cv, ce) := ⟨_, _, rfl⟩
  rw [hc] at HK HE5 HN5 HC0
  simp only at HC0
  rw [← hx4] at C4
  clear hc h1 h2 h3 h4 hat hx4
  generalize celL l = res at HE5 HN5 ⊢
  generalize bl (frL 1 d36 l) = x1 at C1 e1
  generalize bl (frL 1 d36 ((dolL l).dropWhile ltB)) = x3 at C3 e3
  generalize bl ((dolL l).takeWhile ltB) = x2 at C2 HK
  generalize bl (frL 1 yesB ((w3L l).dropWhile dg)) = x5 at C5 e5
  generalize dolB l = b1 at e1 HN5
  generalize dolB ((dolL l).dropWhile ltB) = b3 at e3 HN5
  have n5 : (ce == 5) = false := beq_eq_false_iff_ne.2 HC0
  have e4b : x4.toList.isEmpty = false := by
    rw [e4]
    cases hq : ((w3L l).takeWhile dg) with
    | nil => exact absurd hq hd
    | cons c r => rfl
  clear e4
  have p4 : 0 < ((w3L l).takeWhile dg).length := List.length_pos_iff.2 hd
  have z7 : decide ((((w3L l).takeWhile dg).length : Int) > 7) = true := decide_eq_true (by omega)
  have z7b : (((w3L l).takeWhile dg).length : Int) > 7 := by omega
  have HR := Aside0.mk (HE5.out (.inr (.inr (.inl h7))))
  clear HE5 HN5 HA
  go_enter Tryz.func48, Tryz.ntmps48
  go_wp2_with (first
    | (go_at_call 65; (with_reducible refine (cutter_calls _ _).mono ?_); rintro e w1 ⟨rfl, rfl⟩; have D0 := Aside0.mk (newBlk2 w (.cells #[.int .i64 0, .int .i64 0, .bool false, .bool false] 43) (.cells #[.string (bl l)] 9)); have E0 := Aside0.mk (blk_alloc (newBlk w (.cells #[.int .i64 0, .int .i64 0, .bool false, .bool false] 43)) (.cells #[.string (bl l)] 9)); have B0 := Aside0.mk (bel2 w (.cells #[.int .i64 0, .int .i64 0, .bool false, .bool false] 43) (.cells #[.string (bl l)] 9)))
    | (go_at_call 85; refine (C1.out _ D0.out).mono ?_; rintro e w2 ⟨rfl, hb⟩; have N_ := cut_next B0.out (Nat.lt_succ_self _) D0.out E0.out hb; have B1 := Aside0.mk N_.1; have D1 := Aside0.mk N_.2.1; have E1 := Aside0.mk N_.2.2; clear C1 D0 E0 B0 N_ hb)
    | (go_at_call 85; refine (C2.out _ D1.out).mono ?_; rintro e w3 ⟨rfl, hb⟩; have N_ := cut_next B1.out (Nat.lt_succ_self _) D1.out E1.out hb; have B2 := Aside0.mk N_.1; have D2 := Aside0.mk N_.2.1; have E2 := Aside0.mk N_.2.2; clear C2 D1 E1 B1 N_ hb)
    | (go_at_call 85; refine (C3.out _ D2.out).mono ?_; rintro e w4 ⟨rfl, hb⟩; have N_ := cut_next B2.out (Nat.lt_succ_self _) D2.out E2.out hb; have B3 := Aside0.mk N_.1; have D3 := Aside0.mk N_.2.1; have E3 := Aside0.mk N_.2.2; clear C3 D2 E2 B2 N_ hb)
    | (go_at_call 85; refine (C4.out _ D3.out).mono ?_; rintro e w5 ⟨rfl, hb⟩; have N_ := cut_next B3.out (Nat.lt_succ_self _) D3.out E3.out hb; have B4 := Aside0.mk N_.1; have D4 := Aside0.mk N_.2.1; have E4 := Aside0.mk N_.2.2; clear C4 D3 E3 B3 N_ hb)
    | (go_at_call 85; refine (C5.out _ D4.out).mono ?_; rintro e w6 ⟨rfl, hb⟩; have N_ := cut_next B4.out (Nat.lt_succ_self _) D4.out E4.out hb; have B5 := Aside0.mk N_.1; have D5 := Aside0.mk N_.2.1; have E5 := Aside0.mk N_.2.2; clear C5 D4 E4 B4 N_ hb)
    | (go_at_call 71; refine (place_Column.calls 10 _ _ _ _ HK.out).mono ?_; rintro e w7 ⟨rfl, hd⟩; have BD := Aside0.mk (below_step B5.out (drawn_below hd)); have ED := Aside0.mk (blk_below E5.out (drawn_below hd)); clear hd)
    | ((with_reducible refine gate_store (t := 43) (p := 2) (v := .tmp 62) rfl ?_); refine wpRowSt rfl 43 (.tmp 2) (.tmp 62) rfl (w.heap.size) (CeA ceZ) rfl rfl 43 _ ED.out (by kernel_rfl) rfl rfl ?_))
  refine bodyPost_ret (results_ct rfl _ _ (w.heap.size) 43 (CeA ceZ) (0, 0) _ rfl (setRow_heap _ _ _ _ _ _ ED.out) Tryz.underlying43 rfl (by kernel_rfl)) rfl ?_
  rw [HR.out]
  exact ⟨rfl, rowBelow BD.out (Nat.le_refl _) _⟩
set_option maxHeartbeats 8000000 in
set_option maxRecDepth 100000 in
theorem parse_d (l : List UInt8) (w : World) (hlen : l.length ≤ 1024) (HC0 : ¬(colL ((dolL l).takeWhile ltB)).2 = 5) (hd : ((w3L l).takeWhile dg) ≠ []) (h7 : ¬7 < ((w3L l).takeWhile dg).length) (h0 : ((w3L l).takeWhile dg).head? = some 48) : Calls Tryz.prog 48 #[.string (bl l)] w fun e w' => e = .returned (.tuple #[.agg (CeA (celL l).1), .int .i64 (celL l).2]) ∧ Below w.heap.size w w' := by
  have hsz : (bl l).size = l.length := bl_size l
  have h1 := dolL_len l
  have h2 := dropWhile_len (p := ltB) (dolL l)
  have h3 := dolL_len ((dolL l).dropWhile ltB)
  have h4 := dropWhile_len (p := dg) (w3L l)
  have h5 := takeWhile_len (p := dg) (w3L l)
  have h6 := takeWhile_len (p := ltB) (dolL l)
  have C1 := Aside0.mk fun W hb => cut_dol l 1 W (w.heap.size + 1) (by omega) (by omega) hb
  have C2 := Aside0.mk fun W hb => cut_let (dolL l) l.length W (w.heap.size + 1) (by omega) (by omega) hb
  have C3 := Aside0.mk fun W hb => cut_dol ((dolL l).dropWhile ltB) 1 W (w.heap.size + 1) (by omega) (by omega) hb
  have C4 := Aside0.mk fun W hb => cut_dig (w3L l) l.length W (w.heap.size + 1) (by unfold w3L; omega) (by omega) hb
  have C5 := Aside0.mk fun W hb => cut_all ((w3L l).dropWhile dg) 1 W (w.heap.size + 1) (by unfold w3L at h4 ⊢; omega) (by omega) hb
  rw [rs_dol] at C1 C3
  rw [fr_all _ _ (by omega), rs_all _ _ (by omega)] at C2
  rw [fr_all _ _ (by unfold w3L; omega), rs_all _ _ (by unfold w3L; omega)] at C4
  have HK := Aside0.mk (place_Column_eq ((dolL l).takeWhile ltB) (by omega) 10 (by omega))
  have e1 : (bl (frL 1 d36 l)).toList.isEmpty = !(dolB l) := by
    rw [isE]
    have := fr_dol l
    cases hd : dolB l with
    | false => rw [hd] at this; rw [this.mpr rfl]; rfl
    | true => rw [hd] at this; cases hf : frL 1 d36 l with
      | nil => rw [hf] at this; exact absurd (this.mp rfl) (by simp)
      | cons c r => rfl
  have e3 : (bl (frL 1 d36 ((dolL l).dropWhile ltB))).toList.isEmpty = !(dolB ((dolL l).dropWhile ltB)) := by
    rw [isE]
    have := fr_dol ((dolL l).dropWhile ltB)
    cases hd : dolB ((dolL l).dropWhile ltB) with
    | false => rw [hd] at this; rw [this.mpr rfl]; rfl
    | true => rw [hd] at this; cases hf : frL 1 d36 ((dolL l).dropWhile ltB) with
      | nil => rw [hf] at this; exact absurd (this.mp rfl) (by simp)
      | cons c r => rfl
  obtain ⟨x4, hx4⟩ : ∃ x, x = bl ((w3L l).takeWhile dg) := ⟨_, rfl⟩
  have e4 : x4.toList.isEmpty = ((w3L l).takeWhile dg).isEmpty := by rw [hx4]; exact isE _
  have e5 : (bl (frL 1 yesB ((w3L l).dropWhile dg))).toList.isEmpty = ((w3L l).dropWhile dg).isEmpty := by
    rw [isE, fr_one]
    cases (w3L l).dropWhile dg <;> rfl
  have s4 : x4.size = ((w3L l).takeWhile dg).length := by rw [hx4]; exact bl_size _
  have g4 : ∀ (h : 0 < ((w3L l).takeWhile dg).length) (hh : 0 < x4.size), x4[0]'hh = ((w3L l).takeWhile dg)[0] := by
    subst hx4
    exact fun h hh => get0 _ 0 h hh
  have hat : ((w3L l).takeWhile dg).all dg = true := List.all_eq_true.2 (fun c hc => tw_mem hc)
  have HA := Aside0.mk (show ((w3L l).takeWhile dg) ≠ [] → ((w3L l).takeWhile dg).length ≤ 7 → strconv_Atoi.f x4 = some (((dval 0 ((w3L l).takeWhile dg) : Nat) : Int), none) from fun hn h7 => by
    rw [hx4]
    unfold strconv_Atoi.f
    rw [if_pos (by rw [bl_size]; omega), bl_data, atoi_ok _ hat hn])
  have HE5 := Aside0.mk (celL_5 l)
  have HN5 := Aside0.mk (celL_no5 l)
  obtain ⟨cv, ce, hc⟩ : ∃ cv ce, colL ((dolL l).takeWhile ltB) = (cv, ce) := ⟨_, _, rfl⟩
  rw [hc] at HK HE5 HN5 HC0
  simp only at HC0
  rw [← hx4] at C4
  clear hc h1 h2 h3 h4 hat hx4
  generalize celL l = res at HE5 HN5 ⊢
  generalize bl (frL 1 d36 l) = x1 at C1 e1
  generalize bl (frL 1 d36 ((dolL l).dropWhile ltB)) = x3 at C3 e3
  generalize bl ((dolL l).takeWhile ltB) = x2 at C2 HK
  generalize bl (frL 1 yesB ((w3L l).dropWhile dg)) = x5 at C5 e5
  generalize dolB l = b1 at e1 HN5
  generalize dolB ((dolL l).dropWhile ltB) = b3 at e3 HN5
  have n5 : (ce == 5) = false := beq_eq_false_iff_ne.2 HC0
  have e4b : x4.toList.isEmpty = false := by
    rw [e4]
    cases hq : ((w3L l).takeWhile dg) with
    | nil => exact absurd hq hd
    | cons c r => rfl
  clear e4
  have p4 : 0 < ((w3L l).takeWhile dg).length := List.length_pos_iff.2 hd
  have z7 : decide ((((w3L l).takeWhile dg).length : Int) > 7) = false := decide_eq_false (by omega)
  have z7b : ¬(((w3L l).takeWhile dg).length : Int) > 7 := by omega
  have HR := Aside0.mk (HE5.out (.inr (.inr (.inr (.inl h0)))))
  clear HE5 HN5 HA
  have z0 := g4 p4 (by rw [s4]; exact p4)
  clear g4
  have HZ : ((w3L l).takeWhile dg)[0]'p4 = 48 := Option.some.inj ((head_get _ p4).symm.trans h0)
  rw [HZ] at z0
  have z0b : 0 < ((w3L l).takeWhile dg).length := p4
  go_enter Tryz.func48, Tryz.ntmps48
  go_wp2_with (first
    | (go_at_call 65; (with_reducible refine (cutter_calls _ _).mono ?_); rintro e w1 ⟨rfl, rfl⟩; have D0 := Aside0.mk (newBlk2 w (.cells #[.int .i64 0, .int .i64 0, .bool false, .bool false] 43) (.cells #[.string (bl l)] 9)); have E0 := Aside0.mk (blk_alloc (newBlk w (.cells #[.int .i64 0, .int .i64 0, .bool false, .bool false] 43)) (.cells #[.string (bl l)] 9)); have B0 := Aside0.mk (bel2 w (.cells #[.int .i64 0, .int .i64 0, .bool false, .bool false] 43) (.cells #[.string (bl l)] 9)))
    | (go_at_call 85; refine (C1.out _ D0.out).mono ?_; rintro e w2 ⟨rfl, hb⟩; have N_ := cut_next B0.out (Nat.lt_succ_self _) D0.out E0.out hb; have B1 := Aside0.mk N_.1; have D1 := Aside0.mk N_.2.1; have E1 := Aside0.mk N_.2.2; clear C1 D0 E0 B0 N_ hb)
    | (go_at_call 85; refine (C2.out _ D1.out).mono ?_; rintro e w3 ⟨rfl, hb⟩; have N_ := cut_next B1.out (Nat.lt_succ_self _) D1.out E1.out hb; have B2 := Aside0.mk N_.1; have D2 := Aside0.mk N_.2.1; have E2 := Aside0.mk N_.2.2; clear C2 D1 E1 B1 N_ hb)
    | (go_at_call 85; refine (C3.out _ D2.out).mono ?_; rintro e w4 ⟨rfl, hb⟩; have N_ := cut_next B2.out (Nat.lt_succ_self _) D2.out E2.out hb; have B3 := Aside0.mk N_.1; have D3 := Aside0.mk N_.2.1; have E3 := Aside0.mk N_.2.2; clear C3 D2 E2 B2 N_ hb)
    | (go_at_call 85; refine (C4.out _ D3.out).mono ?_; rintro e w5 ⟨rfl, hb⟩; have N_ := cut_next B3.out (Nat.lt_succ_self _) D3.out E3.out hb; have B4 := Aside0.mk N_.1; have D4 := Aside0.mk N_.2.1; have E4 := Aside0.mk N_.2.2; clear C4 D3 E3 B3 N_ hb)
    | (go_at_call 85; refine (C5.out _ D4.out).mono ?_; rintro e w6 ⟨rfl, hb⟩; have N_ := cut_next B4.out (Nat.lt_succ_self _) D4.out E4.out hb; have B5 := Aside0.mk N_.1; have D5 := Aside0.mk N_.2.1; have E5 := Aside0.mk N_.2.2; clear C5 D4 E4 B4 N_ hb)
    | (go_at_call 71; refine (place_Column.calls 10 _ _ _ _ HK.out).mono ?_; rintro e w7 ⟨rfl, hd⟩; have BD := Aside0.mk (below_step B5.out (drawn_below hd)); have ED := Aside0.mk (blk_below E5.out (drawn_below hd)); clear hd)
    | ((with_reducible refine gate_store (t := 43) (p := 2) (v := .tmp 62) rfl ?_); refine wpRowSt rfl 43 (.tmp 2) (.tmp 62) rfl (w.heap.size) (CeA ceZ) rfl rfl 43 _ ED.out (by kernel_rfl) rfl rfl ?_))
  refine bodyPost_ret (results_ct rfl _ _ (w.heap.size) 43 (CeA ceZ) (0, 0) _ rfl (setRow_heap _ _ _ _ _ _ ED.out) Tryz.underlying43 rfl (by kernel_rfl)) rfl ?_
  rw [HR.out]
  exact ⟨rfl, rowBelow BD.out (Nat.le_refl _) _⟩
set_option maxHeartbeats 8000000 in
set_option maxRecDepth 100000 in
theorem parse_e (l : List UInt8) (w : World) (hlen : l.length ≤ 1024) (HC0 : ¬(colL ((dolL l).takeWhile ltB)).2 = 5) (hd : ((w3L l).takeWhile dg) ≠ []) (h7 : ¬7 < ((w3L l).takeWhile dg).length) (h0 : ¬((w3L l).takeWhile dg).head? = some 48) (hr : ((w3L l).dropWhile dg) ≠ []) : Calls Tryz.prog 48 #[.string (bl l)] w fun e w' => e = .returned (.tuple #[.agg (CeA (celL l).1), .int .i64 (celL l).2]) ∧ Below w.heap.size w w' := by
  have hsz : (bl l).size = l.length := bl_size l
  have h1 := dolL_len l
  have h2 := dropWhile_len (p := ltB) (dolL l)
  have h3 := dolL_len ((dolL l).dropWhile ltB)
  have h4 := dropWhile_len (p := dg) (w3L l)
  have h5 := takeWhile_len (p := dg) (w3L l)
  have h6 := takeWhile_len (p := ltB) (dolL l)
  have C1 := Aside0.mk fun W hb => cut_dol l 1 W (w.heap.size + 1) (by omega) (by omega) hb
  have C2 := Aside0.mk fun W hb => cut_let (dolL l) l.length W (w.heap.size + 1) (by omega) (by omega) hb
  have C3 := Aside0.mk fun W hb => cut_dol ((dolL l).dropWhile ltB) 1 W (w.heap.size + 1) (by omega) (by omega) hb
  have C4 := Aside0.mk fun W hb => cut_dig (w3L l) l.length W (w.heap.size + 1) (by unfold w3L; omega) (by omega) hb
  have C5 := Aside0.mk fun W hb => cut_all ((w3L l).dropWhile dg) 1 W (w.heap.size + 1) (by unfold w3L at h4 ⊢; omega) (by omega) hb
  rw [rs_dol] at C1 C3
  rw [fr_all _ _ (by omega), rs_all _ _ (by omega)] at C2
  rw [fr_all _ _ (by unfold w3L; omega), rs_all _ _ (by unfold w3L; omega)] at C4
  have HK := Aside0.mk (place_Column_eq ((dolL l).takeWhile ltB) (by omega) 10 (by omega))
  have e1 : (bl (frL 1 d36 l)).toList.isEmpty = !(dolB l) := by
    rw [isE]
    have := fr_dol l
    cases hd : dolB l with
    | false => rw [hd] at this; rw [this.mpr rfl]; rfl
    | true => rw [hd] at this; cases hf : frL 1 d36 l with
      | nil => rw [hf] at this; exact absurd (this.mp rfl) (by simp)
      | cons c r => rfl
  have e3 : (bl (frL 1 d36 ((dolL l).dropWhile ltB))).toList.isEmpty = !(dolB ((dolL l).dropWhile ltB)) := by
    rw [isE]
    have := fr_dol ((dolL l).dropWhile ltB)
    cases hd : dolB ((dolL l).dropWhile ltB) with
    | false => rw [hd] at this; rw [this.mpr rfl]; rfl
    | true => rw [hd] at this; cases hf : frL 1 d36 ((dolL l).dropWhile ltB) with
      | nil => rw [hf] at this; exact absurd (this.mp rfl) (by simp)
      | cons c r => rfl
  obtain ⟨x4, hx4⟩ : ∃ x, x = bl ((w3L l).takeWhile dg) := ⟨_, rfl⟩
  have e4 : x4.toList.isEmpty = ((w3L l).takeWhile dg).isEmpty := by rw [hx4]; exact isE _
  have e5 : (bl (frL 1 yesB ((w3L l).dropWhile dg))).toList.isEmpty = ((w3L l).dropWhile dg).isEmpty := by
    rw [isE, fr_one]
    cases (w3L l).dropWhile dg <;> rfl
  have s4 : x4.size = ((w3L l).takeWhile dg).length := by rw [hx4]; exact bl_size _
  have g4 : ∀ (h : 0 < ((w3L l).takeWhile dg).length) (hh : 0 < x4.size), x4[0]'hh = ((w3L l).takeWhile dg)[0] := by
    subst hx4
    exact fun h hh => get0 _ 0 h hh
  have hat : ((w3L l).takeWhile dg).all dg = true := List.all_eq_true.2 (fun c hc => tw_mem hc)
  have HA := Aside0.mk (show ((w3L l).takeWhile dg) ≠ [] → ((w3L l).takeWhile dg).length ≤ 7 → strconv_Atoi.f x4 = some (((dval 0 ((w3L l).takeWhile dg) : Nat) : Int), none) from fun hn h7 => by
    rw [hx4]
    unfold strconv_Atoi.f
    rw [if_pos (by rw [bl_size]; omega), bl_data, atoi_ok _ hat hn])
  have HE5 := Aside0.mk (celL_5 l)
  have HN5 := Aside0.mk (celL_no5 l)
  obtain ⟨cv, ce, hc⟩ : ∃ cv ce, colL ((dolL l).takeWhile ltB) = (cv, ce) := ⟨_, _, rfl⟩
  rw [hc] at HK HE5 HN5 HC0
  simp only at HC0
  rw [← hx4] at C4
  clear hc h1 h2 h3 h4 hat hx4
  generalize celL l = res at HE5 HN5 ⊢
  generalize bl (frL 1 d36 l) = x1 at C1 e1
  generalize bl (frL 1 d36 ((dolL l).dropWhile ltB)) = x3 at C3 e3
  generalize bl ((dolL l).takeWhile ltB) = x2 at C2 HK
  generalize bl (frL 1 yesB ((w3L l).dropWhile dg)) = x5 at C5 e5
  generalize dolB l = b1 at e1 HN5
  generalize dolB ((dolL l).dropWhile ltB) = b3 at e3 HN5
  have n5 : (ce == 5) = false := beq_eq_false_iff_ne.2 HC0
  have e4b : x4.toList.isEmpty = false := by
    rw [e4]
    cases hq : ((w3L l).takeWhile dg) with
    | nil => exact absurd hq hd
    | cons c r => rfl
  clear e4
  have p4 : 0 < ((w3L l).takeWhile dg).length := List.length_pos_iff.2 hd
  have z7 : decide ((((w3L l).takeWhile dg).length : Int) > 7) = false := decide_eq_false (by omega)
  have z7b : ¬(((w3L l).takeWhile dg).length : Int) > 7 := by omega
  have HR := Aside0.mk (HE5.out (.inr (.inr (.inr (.inr hr)))))
  clear HE5 HN5 HA
  have e5' : ((w3L l).dropWhile dg).isEmpty = false := by
    cases hq : ((w3L l).dropWhile dg) with
    | nil => exact absurd hq hr
    | cons c r => rfl
  rw [e5'] at e5
  have z0 := g4 p4 (by rw [s4]; exact p4)
  clear g4
  have HZ : ((((((w3L l).takeWhile dg)[0]'p4).toNat : Nat) : Int) == 48) = false := by
    refine beq_eq_false_iff_ne.2 (fun e => h0 ?_)
    have e2 : ((w3L l).takeWhile dg)[0]'p4 = 48 := u8_of (by simpa using e)
    rw [head_get _ p4, e2]
  generalize ((w3L l).takeWhile dg)[0]'p4 = c0 at z0 HZ
  go_enter Tryz.func48, Tryz.ntmps48
  go_wp2_with (first
    | (go_at_call 65; (with_reducible refine (cutter_calls _ _).mono ?_); rintro e w1 ⟨rfl, rfl⟩; have D0 := Aside0.mk (newBlk2 w (.cells #[.int .i64 0, .int .i64 0, .bool false, .bool false] 43) (.cells #[.string (bl l)] 9)); have E0 := Aside0.mk (blk_alloc (newBlk w (.cells #[.int .i64 0, .int .i64 0, .bool false, .bool false] 43)) (.cells #[.string (bl l)] 9)); have B0 := Aside0.mk (bel2 w (.cells #[.int .i64 0, .int .i64 0, .bool false, .bool false] 43) (.cells #[.string (bl l)] 9)))
    | (go_at_call 85; refine (C1.out _ D0.out).mono ?_; rintro e w2 ⟨rfl, hb⟩; have N_ := cut_next B0.out (Nat.lt_succ_self _) D0.out E0.out hb; have B1 := Aside0.mk N_.1; have D1 := Aside0.mk N_.2.1; have E1 := Aside0.mk N_.2.2; clear C1 D0 E0 B0 N_ hb)
    | (go_at_call 85; refine (C2.out _ D1.out).mono ?_; rintro e w3 ⟨rfl, hb⟩; have N_ := cut_next B1.out (Nat.lt_succ_self _) D1.out E1.out hb; have B2 := Aside0.mk N_.1; have D2 := Aside0.mk N_.2.1; have E2 := Aside0.mk N_.2.2; clear C2 D1 E1 B1 N_ hb)
    | (go_at_call 85; refine (C3.out _ D2.out).mono ?_; rintro e w4 ⟨rfl, hb⟩; have N_ := cut_next B2.out (Nat.lt_succ_self _) D2.out E2.out hb; have B3 := Aside0.mk N_.1; have D3 := Aside0.mk N_.2.1; have E3 := Aside0.mk N_.2.2; clear C3 D2 E2 B2 N_ hb)
    | (go_at_call 85; refine (C4.out _ D3.out).mono ?_; rintro e w5 ⟨rfl, hb⟩; have N_ := cut_next B3.out (Nat.lt_succ_self _) D3.out E3.out hb; have B4 := Aside0.mk N_.1; have D4 := Aside0.mk N_.2.1; have E4 := Aside0.mk N_.2.2; clear C4 D3 E3 B3 N_ hb)
    | (go_at_call 85; refine (C5.out _ D4.out).mono ?_; rintro e w6 ⟨rfl, hb⟩; have N_ := cut_next B4.out (Nat.lt_succ_self _) D4.out E4.out hb; have B5 := Aside0.mk N_.1; have D5 := Aside0.mk N_.2.1; have E5 := Aside0.mk N_.2.2; clear C5 D4 E4 B4 N_ hb)
    | (go_at_call 71; refine (place_Column.calls 10 _ _ _ _ HK.out).mono ?_; rintro e w7 ⟨rfl, hd⟩; have BD := Aside0.mk (below_step B5.out (drawn_below hd)); have ED := Aside0.mk (blk_below E5.out (drawn_below hd)); clear hd)
    | ((with_reducible refine gate_store (t := 43) (p := 2) (v := .tmp 62) rfl ?_); refine wpRowSt rfl 43 (.tmp 2) (.tmp 62) rfl (w.heap.size) (CeA ceZ) rfl rfl 43 _ ED.out (by kernel_rfl) rfl rfl ?_))
  refine bodyPost_ret (results_ct rfl _ _ (w.heap.size) 43 (CeA ceZ) (0, 0) _ rfl (setRow_heap _ _ _ _ _ _ ED.out) Tryz.underlying43 rfl (by kernel_rfl)) rfl ?_
  rw [HR.out]
  exact ⟨rfl, rowBelow BD.out (Nat.le_refl _) _⟩
set_option maxHeartbeats 8000000 in
set_option maxRecDepth 100000 in
theorem parse_f (l : List UInt8) (w : World) (hlen : l.length ≤ 1024) (HC0 : ¬(colL ((dolL l).takeWhile ltB)).2 = 5) (hd : ((w3L l).takeWhile dg) ≠ []) (h7 : ¬7 < ((w3L l).takeWhile dg).length) (h0 : ¬((w3L l).takeWhile dg).head? = some 48) (hr : ((w3L l).dropWhile dg) = []) (hz : ¬(colL ((dolL l).takeWhile ltB)).2 = 0) : Calls Tryz.prog 48 #[.string (bl l)] w fun e w' => e = .returned (.tuple #[.agg (CeA (celL l).1), .int .i64 (celL l).2]) ∧ Below w.heap.size w w' := by
  have hsz : (bl l).size = l.length := bl_size l
  have h1 := dolL_len l
  have h2 := dropWhile_len (p := ltB) (dolL l)
  have h3 := dolL_len ((dolL l).dropWhile ltB)
  have h4 := dropWhile_len (p := dg) (w3L l)
  have h5 := takeWhile_len (p := dg) (w3L l)
  have h6 := takeWhile_len (p := ltB) (dolL l)
  have C1 := Aside0.mk fun W hb => cut_dol l 1 W (w.heap.size + 1) (by omega) (by omega) hb
  have C2 := Aside0.mk fun W hb => cut_let (dolL l) l.length W (w.heap.size + 1) (by omega) (by omega) hb
  have C3 := Aside0.mk fun W hb => cut_dol ((dolL l).dropWhile ltB) 1 W (w.heap.size + 1) (by omega) (by omega) hb
  have C4 := Aside0.mk fun W hb => cut_dig (w3L l) l.length W (w.heap.size + 1) (by unfold w3L; omega) (by omega) hb
  have C5 := Aside0.mk fun W hb => cut_all ((w3L l).dropWhile dg) 1 W (w.heap.size + 1) (by unfold w3L at h4 ⊢; omega) (by omega) hb
  rw [rs_dol] at C1 C3
  rw [fr_all _ _ (by omega), rs_all _ _ (by omega)] at C2
  rw [fr_all _ _ (by unfold w3L; omega), rs_all _ _ (by unfold w3L; omega)] at C4
  have HK := Aside0.mk (place_Column_eq ((dolL l).takeWhile ltB) (by omega) 10 (by omega))
  have e1 : (bl (frL 1 d36 l)).toList.isEmpty = !(dolB l) := by
    rw [isE]
    have := fr_dol l
    cases hd : dolB l with
    | false => rw [hd] at this; rw [this.mpr rfl]; rfl
    | true => rw [hd] at this; cases hf : frL 1 d36 l with
      | nil => rw [hf] at this; exact absurd (this.mp rfl) (by simp)
      | cons c r => rfl
  have e3 : (bl (frL 1 d36 ((dolL l).dropWhile ltB))).toList.isEmpty = !(dolB ((dolL l).dropWhile ltB)) := by
    rw [isE]
    have := fr_dol ((dolL l).dropWhile ltB)
    cases hd : dolB ((dolL l).dropWhile ltB) with
    | false => rw [hd] at this; rw [this.mpr rfl]; rfl
    | true => rw [hd] at this; cases hf : frL 1 d36 ((dolL l).dropWhile ltB) with
      | nil => rw [hf] at this; exact absurd (this.mp rfl) (by simp)
      | cons c r => rfl
  obtain ⟨x4, hx4⟩ : ∃ x, x = bl ((w3L l).takeWhile dg) := ⟨_, rfl⟩
  have e4 : x4.toList.isEmpty = ((w3L l).takeWhile dg).isEmpty := by rw [hx4]; exact isE _
  have e5 : (bl (frL 1 yesB ((w3L l).dropWhile dg))).toList.isEmpty = ((w3L l).dropWhile dg).isEmpty := by
    rw [isE, fr_one]
    cases (w3L l).dropWhile dg <;> rfl
  have s4 : x4.size = ((w3L l).takeWhile dg).length := by rw [hx4]; exact bl_size _
  have g4 : ∀ (h : 0 < ((w3L l).takeWhile dg).length) (hh : 0 < x4.size), x4[0]'hh = ((w3L l).takeWhile dg)[0] := by
    subst hx4
    exact fun h hh => get0 _ 0 h hh
  have hat : ((w3L l).takeWhile dg).all dg = true := List.all_eq_true.2 (fun c hc => tw_mem hc)
  have HA := Aside0.mk (show ((w3L l).takeWhile dg) ≠ [] → ((w3L l).takeWhile dg).length ≤ 7 → strconv_Atoi.f x4 = some (((dval 0 ((w3L l).takeWhile dg) : Nat) : Int), none) from fun hn h7 => by
    rw [hx4]
    unfold strconv_Atoi.f
    rw [if_pos (by rw [bl_size]; omega), bl_data, atoi_ok _ hat hn])
  have HE5 := Aside0.mk (celL_5 l)
  have HN5 := Aside0.mk (celL_no5 l)
  obtain ⟨cv, ce, hc⟩ : ∃ cv ce, colL ((dolL l).takeWhile ltB) = (cv, ce) := ⟨_, _, rfl⟩
  rw [hc] at HK HE5 HN5 HC0 hz
  simp only at HC0 hz
  rw [← hx4] at C4
  clear hc h1 h2 h3 h4 hat hx4
  generalize celL l = res at HE5 HN5 ⊢
  generalize bl (frL 1 d36 l) = x1 at C1 e1
  generalize bl (frL 1 d36 ((dolL l).dropWhile ltB)) = x3 at C3 e3
  generalize bl ((dolL l).takeWhile ltB) = x2 at C2 HK
  generalize bl (frL 1 yesB ((w3L l).dropWhile dg)) = x5 at C5 e5
  generalize dolB l = b1 at e1 HN5
  generalize dolB ((dolL l).dropWhile ltB) = b3 at e3 HN5
  have n5 : (ce == 5) = false := beq_eq_false_iff_ne.2 HC0
  have e4b : x4.toList.isEmpty = false := by
    rw [e4]
    cases hq : ((w3L l).takeWhile dg) with
    | nil => exact absurd hq hd
    | cons c r => rfl
  clear e4
  have p4 : 0 < ((w3L l).takeWhile dg).length := List.length_pos_iff.2 hd
  have z7 : decide ((((w3L l).takeWhile dg).length : Int) > 7) = false := decide_eq_false (by omega)
  have z7b : ¬(((w3L l).takeWhile dg).length : Int) > 7 := by omega
  have HR0 := HN5.out (by rintro (h | h | h | h | h)
                          · exact HC0 h
                          · exact hd h
                          · exact h7 h
                          · exact h0 h
                          · exact h hr)
  have e5' : ((w3L l).dropWhile dg).isEmpty = true := by rw [hr]; rfl
  rw [e5'] at e5
  have HA2 := Aside0.mk (HA.out hd (by omega))
  clear HA HE5 HN5
  rw [if_pos (.inl hz)] at HR0
  have HR := Aside0.mk HR0
  have n0 : (ce == 0) = false := beq_eq_false_iff_ne.2 hz
  clear HR0
  have z0 := g4 p4 (by rw [s4]; exact p4)
  clear g4
  have HZ : ((((((w3L l).takeWhile dg)[0]'p4).toNat : Nat) : Int) == 48) = false := by
    refine beq_eq_false_iff_ne.2 (fun e => h0 ?_)
    have e2 : ((w3L l).takeWhile dg)[0]'p4 = 48 := u8_of (by simpa using e)
    rw [head_get _ p4, e2]
  generalize ((w3L l).takeWhile dg)[0]'p4 = c0 at z0 HZ
  generalize dval 0 ((w3L l).takeWhile dg) = dv at HA2
  go_enter Tryz.func48, Tryz.ntmps48
  go_wp2_with (first
    | (go_at_call 65; (with_reducible refine (cutter_calls _ _).mono ?_); rintro e w1 ⟨rfl, rfl⟩; have D0 := Aside0.mk (newBlk2 w (.cells #[.int .i64 0, .int .i64 0, .bool false, .bool false] 43) (.cells #[.string (bl l)] 9)); have E0 := Aside0.mk (blk_alloc (newBlk w (.cells #[.int .i64 0, .int .i64 0, .bool false, .bool false] 43)) (.cells #[.string (bl l)] 9)); have B0 := Aside0.mk (bel2 w (.cells #[.int .i64 0, .int .i64 0, .bool false, .bool false] 43) (.cells #[.string (bl l)] 9)))
    | (go_at_call 85; refine (C1.out _ D0.out).mono ?_; rintro e w2 ⟨rfl, hb⟩; have N_ := cut_next B0.out (Nat.lt_succ_self _) D0.out E0.out hb; have B1 := Aside0.mk N_.1; have D1 := Aside0.mk N_.2.1; have E1 := Aside0.mk N_.2.2; clear C1 D0 E0 B0 N_ hb)
    | (go_at_call 85; refine (C2.out _ D1.out).mono ?_; rintro e w3 ⟨rfl, hb⟩; have N_ := cut_next B1.out (Nat.lt_succ_self _) D1.out E1.out hb; have B2 := Aside0.mk N_.1; have D2 := Aside0.mk N_.2.1; have E2 := Aside0.mk N_.2.2; clear C2 D1 E1 B1 N_ hb)
    | (go_at_call 85; refine (C3.out _ D2.out).mono ?_; rintro e w4 ⟨rfl, hb⟩; have N_ := cut_next B2.out (Nat.lt_succ_self _) D2.out E2.out hb; have B3 := Aside0.mk N_.1; have D3 := Aside0.mk N_.2.1; have E3 := Aside0.mk N_.2.2; clear C3 D2 E2 B2 N_ hb)
    | (go_at_call 85; refine (C4.out _ D3.out).mono ?_; rintro e w5 ⟨rfl, hb⟩; have N_ := cut_next B3.out (Nat.lt_succ_self _) D3.out E3.out hb; have B4 := Aside0.mk N_.1; have D4 := Aside0.mk N_.2.1; have E4 := Aside0.mk N_.2.2; clear C4 D3 E3 B3 N_ hb)
    | (go_at_call 85; refine (C5.out _ D4.out).mono ?_; rintro e w6 ⟨rfl, hb⟩; have N_ := cut_next B4.out (Nat.lt_succ_self _) D4.out E4.out hb; have B5 := Aside0.mk N_.1; have D5 := Aside0.mk N_.2.1; have E5 := Aside0.mk N_.2.2; clear C5 D4 E4 B4 N_ hb)
    | (go_at_call 71; refine (place_Column.calls 10 _ _ _ _ HK.out).mono ?_; rintro e w7 ⟨rfl, hd⟩; have BD := Aside0.mk (below_step B5.out (drawn_below hd)); have ED := Aside0.mk (blk_below E5.out (drawn_below hd)); clear hd)
    | (go_at_call 72; refine (strconv_Atoi.calls _ _ _ _ HA2.out).mono ?_; rintro e w8 ⟨rfl, hb⟩; have BA := Aside0.mk (below_step BD.out hb); have EA := Aside0.mk (blk_below ED.out hb); clear hb)
    | ((with_reducible refine gate_store (t := 43) (p := 2) (v := .tmp 74) rfl ?_); refine wpRowSt rfl 43 (.tmp 2) (.tmp 74) rfl (w.heap.size) (CeA ceZ) rfl rfl 43 _ EA.out (by kernel_rfl) rfl rfl ?_))
  refine bodyPost_ret (results_ct rfl _ _ (w.heap.size) 43 (CeA ceZ) (0, 0) _ rfl (setRow_heap _ _ _ _ _ _ EA.out) Tryz.underlying43 rfl (by kernel_rfl)) rfl ?_
  rw [HR.out]
  exact ⟨rfl, rowBelow BA.out (Nat.le_refl _) _⟩
set_option maxHeartbeats 8000000 in
set_option maxRecDepth 100000 in
theorem parse_g (l : List UInt8) (w : World) (hlen : l.length ≤ 1024) (HC0 : ¬(colL ((dolL l).takeWhile ltB)).2 = 5) (hd : ((w3L l).takeWhile dg) ≠ []) (h7 : ¬7 < ((w3L l).takeWhile dg).length) (h0 : ¬((w3L l).takeWhile dg).head? = some 48) (hr : ((w3L l).dropWhile dg) = []) (hz : (colL ((dolL l).takeWhile ltB)).2 = 0) (hv : 1048576 < dval 0 ((w3L l).takeWhile dg)) : Calls Tryz.prog 48 #[.string (bl l)] w fun e w' => e = .returned (.tuple #[.agg (CeA (celL l).1), .int .i64 (celL l).2]) ∧ Below w.heap.size w w' := by
  have hsz : (bl l).size = l.length := bl_size l
  have h1 := dolL_len l
  have h2 := dropWhile_len (p := ltB) (dolL l)
  have h3 := dolL_len ((dolL l).dropWhile ltB)
  have h4 := dropWhile_len (p := dg) (w3L l)
  have h5 := takeWhile_len (p := dg) (w3L l)
  have h6 := takeWhile_len (p := ltB) (dolL l)
  have C1 := Aside0.mk fun W hb => cut_dol l 1 W (w.heap.size + 1) (by omega) (by omega) hb
  have C2 := Aside0.mk fun W hb => cut_let (dolL l) l.length W (w.heap.size + 1) (by omega) (by omega) hb
  have C3 := Aside0.mk fun W hb => cut_dol ((dolL l).dropWhile ltB) 1 W (w.heap.size + 1) (by omega) (by omega) hb
  have C4 := Aside0.mk fun W hb => cut_dig (w3L l) l.length W (w.heap.size + 1) (by unfold w3L; omega) (by omega) hb
  have C5 := Aside0.mk fun W hb => cut_all ((w3L l).dropWhile dg) 1 W (w.heap.size + 1) (by unfold w3L at h4 ⊢; omega) (by omega) hb
  rw [rs_dol] at C1 C3
  rw [fr_all _ _ (by omega), rs_all _ _ (by omega)] at C2
  rw [fr_all _ _ (by unfold w3L; omega), rs_all _ _ (by unfold w3L; omega)] at C4
  have HK := Aside0.mk (place_Column_eq ((dolL l).takeWhile ltB) (by omega) 10 (by omega))
  have e1 : (bl (frL 1 d36 l)).toList.isEmpty = !(dolB l) := by
    rw [isE]
    have := fr_dol l
    cases hd : dolB l with
    | false => rw [hd] at this; rw [this.mpr rfl]; rfl
    | true => rw [hd] at this; cases hf : frL 1 d36 l with
      | nil => rw [hf] at this; exact absurd (this.mp rfl) (by simp)
      | cons c r => rfl
  have e3 : (bl (frL 1 d36 ((dolL l).dropWhile ltB))).toList.isEmpty = !(dolB ((dolL l).dropWhile ltB)) := by
    rw [isE]
    have := fr_dol ((dolL l).dropWhile ltB)
    cases hd : dolB ((dolL l).dropWhile ltB) with
    | false => rw [hd] at this; rw [this.mpr rfl]; rfl
    | true => rw [hd] at this; cases hf : frL 1 d36 ((dolL l).dropWhile ltB) with
      | nil => rw [hf] at this; exact absurd (this.mp rfl) (by simp)
      | cons c r => rfl
  obtain ⟨x4, hx4⟩ : ∃ x, x = bl ((w3L l).takeWhile dg) := ⟨_, rfl⟩
  have e4 : x4.toList.isEmpty = ((w3L l).takeWhile dg).isEmpty := by rw [hx4]; exact isE _
  have e5 : (bl (frL 1 yesB ((w3L l).dropWhile dg))).toList.isEmpty = ((w3L l).dropWhile dg).isEmpty := by
    rw [isE, fr_one]
    cases (w3L l).dropWhile dg <;> rfl
  have s4 : x4.size = ((w3L l).takeWhile dg).length := by rw [hx4]; exact bl_size _
  have g4 : ∀ (h : 0 < ((w3L l).takeWhile dg).length) (hh : 0 < x4.size), x4[0]'hh = ((w3L l).takeWhile dg)[0] := by
    subst hx4
    exact fun h hh => get0 _ 0 h hh
  have hat : ((w3L l).takeWhile dg).all dg = true := List.all_eq_true.2 (fun c hc => tw_mem hc)
  have HA := Aside0.mk (show ((w3L l).takeWhile dg) ≠ [] → ((w3L l).takeWhile dg).length ≤ 7 → strconv_Atoi.f x4 = some (((dval 0 ((w3L l).takeWhile dg) : Nat) : Int), none) from fun hn h7 => by
    rw [hx4]
    unfold strconv_Atoi.f
    rw [if_pos (by rw [bl_size]; omega), bl_data, atoi_ok _ hat hn])
  have HE5 := Aside0.mk (celL_5 l)
  have HN5 := Aside0.mk (celL_no5 l)
  obtain ⟨cv, ce, hc⟩ : ∃ cv ce, colL ((dolL l).takeWhile ltB) = (cv, ce) := ⟨_, _, rfl⟩
  rw [hc] at HK HE5 HN5 HC0 hz
  simp only at HC0 hz
  rw [← hx4] at C4
  clear hc h1 h2 h3 h4 hat hx4
  generalize celL l = res at HE5 HN5 ⊢
  generalize bl (frL 1 d36 l) = x1 at C1 e1
  generalize bl (frL 1 d36 ((dolL l).dropWhile ltB)) = x3 at C3 e3
  generalize bl ((dolL l).takeWhile ltB) = x2 at C2 HK
  generalize bl (frL 1 yesB ((w3L l).dropWhile dg)) = x5 at C5 e5
  generalize dolB l = b1 at e1 HN5
  generalize dolB ((dolL l).dropWhile ltB) = b3 at e3 HN5
  have n5 : (ce == 5) = false := beq_eq_false_iff_ne.2 HC0
  have e4b : x4.toList.isEmpty = false := by
    rw [e4]
    cases hq : ((w3L l).takeWhile dg) with
    | nil => exact absurd hq hd
    | cons c r => rfl
  clear e4
  have p4 : 0 < ((w3L l).takeWhile dg).length := List.length_pos_iff.2 hd
  have z7 : decide ((((w3L l).takeWhile dg).length : Int) > 7) = false := decide_eq_false (by omega)
  have z7b : ¬(((w3L l).takeWhile dg).length : Int) > 7 := by omega
  have HR0 := HN5.out (by rintro (h | h | h | h | h)
                          · exact HC0 h
                          · exact hd h
                          · exact h7 h
                          · exact h0 h
                          · exact h hr)
  have e5' : ((w3L l).dropWhile dg).isEmpty = true := by rw [hr]; rfl
  rw [e5'] at e5
  have HA2 := Aside0.mk (HA.out hd (by omega))
  clear HA HE5 HN5
  rw [if_pos (.inr hv)] at HR0
  have HR := Aside0.mk HR0
  subst hz
  clear HR0
  have z0 := g4 p4 (by rw [s4]; exact p4)
  clear g4
  have HZ : ((((((w3L l).takeWhile dg)[0]'p4).toNat : Nat) : Int) == 48) = false := by
    refine beq_eq_false_iff_ne.2 (fun e => h0 ?_)
    have e2 : ((w3L l).takeWhile dg)[0]'p4 = 48 := u8_of (by simpa using e)
    rw [head_get _ p4, e2]
  generalize ((w3L l).takeWhile dg)[0]'p4 = c0 at z0 HZ
  generalize dval 0 ((w3L l).takeWhile dg) = dv at HA2 hv
  have v1 : decide ((dv : Int) > 1048576) = true := decide_eq_true (by omega)
  have v2 : (dv : Int) > 1048576 := by omega
  have v3 : 1048576 < dv := hv
  go_enter Tryz.func48, Tryz.ntmps48
  go_wp2_with (first
    | (go_at_call 65; (with_reducible refine (cutter_calls _ _).mono ?_); rintro e w1 ⟨rfl, rfl⟩; have D0 := Aside0.mk (newBlk2 w (.cells #[.int .i64 0, .int .i64 0, .bool false, .bool false] 43) (.cells #[.string (bl l)] 9)); have E0 := Aside0.mk (blk_alloc (newBlk w (.cells #[.int .i64 0, .int .i64 0, .bool false, .bool false] 43)) (.cells #[.string (bl l)] 9)); have B0 := Aside0.mk (bel2 w (.cells #[.int .i64 0, .int .i64 0, .bool false, .bool false] 43) (.cells #[.string (bl l)] 9)))
    | (go_at_call 85; refine (C1.out _ D0.out).mono ?_; rintro e w2 ⟨rfl, hb⟩; have N_ := cut_next B0.out (Nat.lt_succ_self _) D0.out E0.out hb; have B1 := Aside0.mk N_.1; have D1 := Aside0.mk N_.2.1; have E1 := Aside0.mk N_.2.2; clear C1 D0 E0 B0 N_ hb)
    | (go_at_call 85; refine (C2.out _ D1.out).mono ?_; rintro e w3 ⟨rfl, hb⟩; have N_ := cut_next B1.out (Nat.lt_succ_self _) D1.out E1.out hb; have B2 := Aside0.mk N_.1; have D2 := Aside0.mk N_.2.1; have E2 := Aside0.mk N_.2.2; clear C2 D1 E1 B1 N_ hb)
    | (go_at_call 85; refine (C3.out _ D2.out).mono ?_; rintro e w4 ⟨rfl, hb⟩; have N_ := cut_next B2.out (Nat.lt_succ_self _) D2.out E2.out hb; have B3 := Aside0.mk N_.1; have D3 := Aside0.mk N_.2.1; have E3 := Aside0.mk N_.2.2; clear C3 D2 E2 B2 N_ hb)
    | (go_at_call 85; refine (C4.out _ D3.out).mono ?_; rintro e w5 ⟨rfl, hb⟩; have N_ := cut_next B3.out (Nat.lt_succ_self _) D3.out E3.out hb; have B4 := Aside0.mk N_.1; have D4 := Aside0.mk N_.2.1; have E4 := Aside0.mk N_.2.2; clear C4 D3 E3 B3 N_ hb)
    | (go_at_call 85; refine (C5.out _ D4.out).mono ?_; rintro e w6 ⟨rfl, hb⟩; have N_ := cut_next B4.out (Nat.lt_succ_self _) D4.out E4.out hb; have B5 := Aside0.mk N_.1; have D5 := Aside0.mk N_.2.1; have E5 := Aside0.mk N_.2.2; clear C5 D4 E4 B4 N_ hb)
    | (go_at_call 71; refine (place_Column.calls 10 _ _ _ _ HK.out).mono ?_; rintro e w7 ⟨rfl, hd⟩; have BD := Aside0.mk (below_step B5.out (drawn_below hd)); have ED := Aside0.mk (blk_below E5.out (drawn_below hd)); clear hd)
    | (go_at_call 72; refine (strconv_Atoi.calls _ _ _ _ HA2.out).mono ?_; rintro e w8 ⟨rfl, hb⟩; have BA := Aside0.mk (below_step BD.out hb); have EA := Aside0.mk (blk_below ED.out hb); clear hb)
    | ((with_reducible refine gate_store (t := 43) (p := 2) (v := .tmp 74) rfl ?_); refine wpRowSt rfl 43 (.tmp 2) (.tmp 74) rfl (w.heap.size) (CeA ceZ) rfl rfl 43 _ EA.out (by kernel_rfl) rfl rfl ?_))
  refine bodyPost_ret (results_ct rfl _ _ (w.heap.size) 43 (CeA ceZ) (0, 0) _ rfl (setRow_heap _ _ _ _ _ _ EA.out) Tryz.underlying43 rfl (by kernel_rfl)) rfl ?_
  rw [HR.out]
  exact ⟨rfl, rowBelow BA.out (Nat.le_refl _) _⟩
set_option maxHeartbeats 8000000 in
set_option maxRecDepth 100000 in
theorem parse_h (l : List UInt8) (w : World) (hlen : l.length ≤ 1024) (HC0 : ¬(colL ((dolL l).takeWhile ltB)).2 = 5) (hd : ((w3L l).takeWhile dg) ≠ []) (h7 : ¬7 < ((w3L l).takeWhile dg).length) (h0 : ¬((w3L l).takeWhile dg).head? = some 48) (hr : ((w3L l).dropWhile dg) = []) (hz : (colL ((dolL l).takeWhile ltB)).2 = 0) (hv : ¬1048576 < dval 0 ((w3L l).takeWhile dg)) : Calls Tryz.prog 48 #[.string (bl l)] w fun e w' => e = .returned (.tuple #[.agg (CeA (celL l).1), .int .i64 (celL l).2]) ∧ Below w.heap.size w w' := by
  have hsz : (bl l).size = l.length := bl_size l
  have h1 := dolL_len l
  have h2 := dropWhile_len (p := ltB) (dolL l)
  have h3 := dolL_len ((dolL l).dropWhile ltB)
  have h4 := dropWhile_len (p := dg) (w3L l)
  have h5 := takeWhile_len (p := dg) (w3L l)
  have h6 := takeWhile_len (p := ltB) (dolL l)
  have C1 := Aside0.mk fun W hb => cut_dol l 1 W (w.heap.size + 1) (by omega) (by omega) hb
  have C2 := Aside0.mk fun W hb => cut_let (dolL l) l.length W (w.heap.size + 1) (by omega) (by omega) hb
  have C3 := Aside0.mk fun W hb => cut_dol ((dolL l).dropWhile ltB) 1 W (w.heap.size + 1) (by omega) (by omega) hb
  have C4 := Aside0.mk fun W hb => cut_dig (w3L l) l.length W (w.heap.size + 1) (by unfold w3L; omega) (by omega) hb
  have C5 := Aside0.mk fun W hb => cut_all ((w3L l).dropWhile dg) 1 W (w.heap.size + 1) (by unfold w3L at h4 ⊢; omega) (by omega) hb
  rw [rs_dol] at C1 C3
  rw [fr_all _ _ (by omega), rs_all _ _ (by omega)] at C2
  rw [fr_all _ _ (by unfold w3L; omega), rs_all _ _ (by unfold w3L; omega)] at C4
  have HK := Aside0.mk (place_Column_eq ((dolL l).takeWhile ltB) (by omega) 10 (by omega))
  have e1 : (bl (frL 1 d36 l)).toList.isEmpty = !(dolB l) := by
    rw [isE]
    have := fr_dol l
    cases hd : dolB l with
    | false => rw [hd] at this; rw [this.mpr rfl]; rfl
    | true => rw [hd] at this; cases hf : frL 1 d36 l with
      | nil => rw [hf] at this; exact absurd (this.mp rfl) (by simp)
      | cons c r => rfl
  have e3 : (bl (frL 1 d36 ((dolL l).dropWhile ltB))).toList.isEmpty = !(dolB ((dolL l).dropWhile ltB)) := by
    rw [isE]
    have := fr_dol ((dolL l).dropWhile ltB)
    cases hd : dolB ((dolL l).dropWhile ltB) with
    | false => rw [hd] at this; rw [this.mpr rfl]; rfl
    | true => rw [hd] at this; cases hf : frL 1 d36 ((dolL l).dropWhile ltB) with
      | nil => rw [hf] at this; exact absurd (this.mp rfl) (by simp)
      | cons c r => rfl
  obtain ⟨x4, hx4⟩ : ∃ x, x = bl ((w3L l).takeWhile dg) := ⟨_, rfl⟩
  have e4 : x4.toList.isEmpty = ((w3L l).takeWhile dg).isEmpty := by rw [hx4]; exact isE _
  have e5 : (bl (frL 1 yesB ((w3L l).dropWhile dg))).toList.isEmpty = ((w3L l).dropWhile dg).isEmpty := by
    rw [isE, fr_one]
    cases (w3L l).dropWhile dg <;> rfl
  have s4 : x4.size = ((w3L l).takeWhile dg).length := by rw [hx4]; exact bl_size _
  have g4 : ∀ (h : 0 < ((w3L l).takeWhile dg).length) (hh : 0 < x4.size), x4[0]'hh = ((w3L l).takeWhile dg)[0] := by
    subst hx4
    exact fun h hh => get0 _ 0 h hh
  have hat : ((w3L l).takeWhile dg).all dg = true := List.all_eq_true.2 (fun c hc => tw_mem hc)
  have HA := Aside0.mk (show ((w3L l).takeWhile dg) ≠ [] → ((w3L l).takeWhile dg).length ≤ 7 → strconv_Atoi.f x4 = some (((dval 0 ((w3L l).takeWhile dg) : Nat) : Int), none) from fun hn h7 => by
    rw [hx4]
    unfold strconv_Atoi.f
    rw [if_pos (by rw [bl_size]; omega), bl_data, atoi_ok _ hat hn])
  have HE5 := Aside0.mk (celL_5 l)
  have HN5 := Aside0.mk (celL_no5 l)
  obtain ⟨cv, ce, hc⟩ : ∃ cv ce, colL ((dolL l).takeWhile ltB) = (cv, ce) := ⟨_, _, rfl⟩
  rw [hc] at HK HE5 HN5 HC0 hz
  simp only at HC0 hz
  rw [← hx4] at C4
  clear hc h1 h2 h3 h4 hat hx4
  generalize celL l = res at HE5 HN5 ⊢
  generalize bl (frL 1 d36 l) = x1 at C1 e1
  generalize bl (frL 1 d36 ((dolL l).dropWhile ltB)) = x3 at C3 e3
  generalize bl ((dolL l).takeWhile ltB) = x2 at C2 HK
  generalize bl (frL 1 yesB ((w3L l).dropWhile dg)) = x5 at C5 e5
  generalize dolB l = b1 at e1 HN5
  generalize dolB ((dolL l).dropWhile ltB) = b3 at e3 HN5
  have n5 : (ce == 5) = false := beq_eq_false_iff_ne.2 HC0
  have e4b : x4.toList.isEmpty = false := by
    rw [e4]
    cases hq : ((w3L l).takeWhile dg) with
    | nil => exact absurd hq hd
    | cons c r => rfl
  clear e4
  have p4 : 0 < ((w3L l).takeWhile dg).length := List.length_pos_iff.2 hd
  have z7 : decide ((((w3L l).takeWhile dg).length : Int) > 7) = false := decide_eq_false (by omega)
  have z7b : ¬(((w3L l).takeWhile dg).length : Int) > 7 := by omega
  have HR0 := HN5.out (by rintro (h | h | h | h | h)
                          · exact HC0 h
                          · exact hd h
                          · exact h7 h
                          · exact h0 h
                          · exact h hr)
  have e5' : ((w3L l).dropWhile dg).isEmpty = true := by rw [hr]; rfl
  rw [e5'] at e5
  have HA2 := Aside0.mk (HA.out hd (by omega))
  clear HA HE5 HN5
  subst hz
  rw [if_neg (by rintro (h | h)
                 · exact h rfl
                 · exact hv h)] at HR0
  have HR := Aside0.mk HR0
  clear HR0
  have z0 := g4 p4 (by rw [s4]; exact p4)
  clear g4
  have HZ : ((((((w3L l).takeWhile dg)[0]'p4).toNat : Nat) : Int) == 48) = false := by
    refine beq_eq_false_iff_ne.2 (fun e => h0 ?_)
    have e2 : ((w3L l).takeWhile dg)[0]'p4 = 48 := u8_of (by simpa using e)
    rw [head_get _ p4, e2]
  generalize ((w3L l).takeWhile dg)[0]'p4 = c0 at z0 HZ
  generalize dval 0 ((w3L l).takeWhile dg) = dv at HA2 hv HR
  have v1 : decide ((dv : Int) > 1048576) = false := decide_eq_false (by omega)
  have v2 : ¬(dv : Int) > 1048576 := by omega
  go_enter Tryz.func48, Tryz.ntmps48
  go_wp2_with (first
    | (go_at_call 65; (with_reducible refine (cutter_calls _ _).mono ?_); rintro e w1 ⟨rfl, rfl⟩; have D0 := Aside0.mk (newBlk2 w (.cells #[.int .i64 0, .int .i64 0, .bool false, .bool false] 43) (.cells #[.string (bl l)] 9)); have E0 := Aside0.mk (blk_alloc (newBlk w (.cells #[.int .i64 0, .int .i64 0, .bool false, .bool false] 43)) (.cells #[.string (bl l)] 9)); have B0 := Aside0.mk (bel2 w (.cells #[.int .i64 0, .int .i64 0, .bool false, .bool false] 43) (.cells #[.string (bl l)] 9)))
    | (go_at_call 85; refine (C1.out _ D0.out).mono ?_; rintro e w2 ⟨rfl, hb⟩; have N_ := cut_next B0.out (Nat.lt_succ_self _) D0.out E0.out hb; have B1 := Aside0.mk N_.1; have D1 := Aside0.mk N_.2.1; have E1 := Aside0.mk N_.2.2; clear C1 D0 E0 B0 N_ hb)
    | (go_at_call 85; refine (C2.out _ D1.out).mono ?_; rintro e w3 ⟨rfl, hb⟩; have N_ := cut_next B1.out (Nat.lt_succ_self _) D1.out E1.out hb; have B2 := Aside0.mk N_.1; have D2 := Aside0.mk N_.2.1; have E2 := Aside0.mk N_.2.2; clear C2 D1 E1 B1 N_ hb)
    | (go_at_call 85; refine (C3.out _ D2.out).mono ?_; rintro e w4 ⟨rfl, hb⟩; have N_ := cut_next B2.out (Nat.lt_succ_self _) D2.out E2.out hb; have B3 := Aside0.mk N_.1; have D3 := Aside0.mk N_.2.1; have E3 := Aside0.mk N_.2.2; clear C3 D2 E2 B2 N_ hb)
    | (go_at_call 85; refine (C4.out _ D3.out).mono ?_; rintro e w5 ⟨rfl, hb⟩; have N_ := cut_next B3.out (Nat.lt_succ_self _) D3.out E3.out hb; have B4 := Aside0.mk N_.1; have D4 := Aside0.mk N_.2.1; have E4 := Aside0.mk N_.2.2; clear C4 D3 E3 B3 N_ hb)
    | (go_at_call 85; refine (C5.out _ D4.out).mono ?_; rintro e w6 ⟨rfl, hb⟩; have N_ := cut_next B4.out (Nat.lt_succ_self _) D4.out E4.out hb; have B5 := Aside0.mk N_.1; have D5 := Aside0.mk N_.2.1; have E5 := Aside0.mk N_.2.2; clear C5 D4 E4 B4 N_ hb)
    | (go_at_call 71; refine (place_Column.calls 10 _ _ _ _ HK.out).mono ?_; rintro e w7 ⟨rfl, hd⟩; have BD := Aside0.mk (below_step B5.out (drawn_below hd)); have ED := Aside0.mk (blk_below E5.out (drawn_below hd)); clear hd)
    | (go_at_call 72; refine (strconv_Atoi.calls _ _ _ _ HA2.out).mono ?_; rintro e w8 ⟨rfl, hb⟩; have BA := Aside0.mk (below_step BD.out hb); have EA := Aside0.mk (blk_below ED.out hb); clear hb)
    | ((with_reducible refine gate_store (t := 43) (p := 2) (v := .tmp 80) rfl ?_); refine wpRowSt rfl 43 (.tmp 2) (.tmp 80) rfl (w.heap.size) (CeA ⟨⟨(dv : Int), cv⟩, b3, b1⟩) rfl rfl 43 _ EA.out (by kernel_rfl) rfl rfl ?_))
  refine bodyPost_ret (results_ct rfl _ _ (w.heap.size) 43 (CeA ⟨⟨(dv : Int), cv⟩, b3, b1⟩) (0, 0) _ rfl (setRow_heap _ _ _ _ _ _ EA.out) Tryz.underlying43 rfl (by kernel_rfl)) rfl ?_
  rw [HR.out]
  exact ⟨rfl, rowBelow BA.out (Nat.le_refl _) _⟩
theorem parse_cell (l : List UInt8) (w : World) (hlen : l.length ≤ 1024) : Calls Tryz.prog 48 #[.string (bl l)] w fun e w' => e = .returned (.tuple #[.agg (CeA (celL l).1), .int .i64 (celL l).2]) ∧ Below w.heap.size w w' := by
  by_cases c1 : (colL ((dolL l).takeWhile ltB)).2 = 5
  · exact parse_a l w hlen c1
  by_cases c2 : ((w3L l).takeWhile dg) = []
  · exact parse_b l w hlen c1 c2
  by_cases c3 : 7 < ((w3L l).takeWhile dg).length
  · exact parse_c l w hlen c1 c2 c3
  by_cases c4 : ((w3L l).takeWhile dg).head? = some 48
  · exact parse_d l w hlen c1 c2 c3 c4
  by_cases c5 : (w3L l).dropWhile dg = []
  · by_cases c6 : (colL ((dolL l).takeWhile ltB)).2 = 0
    · by_cases c7 : 1048576 < dval 0 ((w3L l).takeWhile dg)
      · exact parse_g l w hlen c1 c2 c3 c4 c5 c6 c7
      · exact parse_h l w hlen c1 c2 c3 c4 c5 c6 c7
    · exact parse_f l w hlen c1 c2 c3 c4 c5 c6
  · exact parse_e l w hlen c1 c2 c3 c4 c5
end Go.Proofs.YtmppnobldhhpjaaGreatDoor.Pr
end
