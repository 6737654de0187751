/-
  Lemmas for the law LexScansLexPairs.
-/
import Derived.Test.YtmppnobldhhpjaaGreatDoorSLexScansLexPairs10
import Derived.Test.YtmppnobldhhpjaaGreatDoorSLexScansLexPairs19
import Derived.Test.YtmppnobldhhpjaaGreatDoorSLexScansLexPairs26
section
namespace Go.Proofs.YtmppnobldhhpjaaGreatDoor.Pr
set_option linter.unusedVariables false
set_option linter.unusedSimpArgs false
open Go.RowKit Go.Proofs.YtmppnobldhhpjaaGreatDoorW.PrintWords Go.Proofs.YtmppnobldhhpjaaGreatDoorW.PrintLast Go.Proofs.YtmppnobldhhpjaaGreatDoorW.PrintMore
def d36 (c : UInt8) : Bool := c == 36
def yesB (c : UInt8) : Bool := true
theorem parse1_so : SoLaw 66 d36 := by
  intro c W
  have h36 := u8_dec (fun c => (((c.toNat : Int) == 36) = d36 c)) (by decide +kernel) c
  go_enter Tryz.func66, Tryz.ntmps66
  go_wp2
  go_ret
  exact ⟨by rw [← h36]; rfl, Below.refl _ _⟩
theorem parse2_so : SoLaw 67 dg := by
  intro c W
  by_cases h1 : 48 ≤ c.toNat
  · have hd1 : decide ((c.toNat : Int) ≥ 48) = true := decide_eq_true (by omega)
    have h1i : (48 : Int) ≤ (c.toNat : Int) := by omega
    have hd : dg c = decide ((c.toNat : Int) ≤ 57) := by
      unfold dg
      rw [decide_eq_true h1, Bool.true_and]
      by_cases h2 : c.toNat ≤ 57
      · rw [decide_eq_true h2, decide_eq_true (by omega)]
      · rw [decide_eq_false h2, decide_eq_false (by omega)]
    go_enter Tryz.func67, Tryz.ntmps67
    go_wp2
    go_ret
    exact ⟨by rw [hd]; rfl, Below.refl _ _⟩
  · have hd1 : decide ((c.toNat : Int) ≥ 48) = false := decide_eq_false (by omega)
    have h1i : ¬(48 : Int) ≤ (c.toNat : Int) := by omega
    have hd : dg c = false := by
      unfold dg
      rw [decide_eq_false h1, Bool.false_and]
    go_enter Tryz.func67, Tryz.ntmps67
    go_wp2
    go_ret
    exact ⟨by first | rfl | (rw [hd]; rfl), Below.refl _ _⟩
theorem parse3_so : SoLaw 68 ltB := by
  intro c W
  have HL := Aside0.mk fun W => (place_letter.calls _ _ W (place_letter_eq c))
  have hd := u8_dec (fun c => decide (0 < ltN c) = ltB c) (by decide +kernel) c
  generalize ltN c = n at HL hd
  go_enter Tryz.func68, Tryz.ntmps68
  go_wp2_with (go_at_call 69; (with_reducible refine (HL.out _).mono ?_); rintro e w1 ⟨rfl, hb⟩; have HB := Aside0.mk (drawn_below hb); clear hb)
  go_ret
  exact ⟨by rw [← hd]; rfl, HB.out⟩
theorem parse4_so : SoLaw 70 yesB := by
  intro c W
  go_enter Tryz.func70, Tryz.ntmps70
  go_wp2
  go_ret
  exact ⟨rfl, Below.refl _ _⟩
def frL (most : Nat) (p : UInt8 → Bool) (l : List UInt8) : List UInt8 := (l.take most).takeWhile p
def rsL (most : Nat) (p : UInt8 → Bool) (l : List UInt8) : List UInt8 := l.drop (frL most p l).length
theorem cutter_calls (s : ByteArray) (w : World) : Calls Tryz.prog 65 #[.string s] w fun e w' => e = .returned (.func (.func 85) #[] #[ptV w.heap.size]) ∧ w' = w.alloc (.cells #[.string s] 9) := by
  go_enter Tryz.func65, Tryz.ntmps65
  go_wp2
  go_ret
  exact ⟨rfl, rfl⟩
theorem fr_step {p : UInt8 → Bool} (l : List UInt8) (most k : Nat) (h : k < l.length) (hm : k < most) (hk : k ≤ (frL most p l).length) (hp : p l[k] = true) : k + 1 ≤ (frL most p l).length := by
  unfold frL at hk ⊢
  have h2 : k < (l.take most).length := by rw [List.length_take]; omega
  exact tw_step (p := p) (l.take most) k h2 hk (by rw [List.getElem_take]; exact hp)
theorem fr_stop {p : UInt8 → Bool} (l : List UInt8) (most k : Nat) (hk : k ≤ (frL most p l).length) (hp : ∀ h : k < l.length, k < most → p l[k] = false) : frL most p l = l.take k := by
  unfold frL at hk ⊢
  have hle := takeWhile_len (p := p) (l.take most)
  rw [List.length_take] at hle
  have := tw_stop (p := p) (l.take most) k hk (fun h2 => by
    rw [List.length_take] at h2
    rw [List.getElem_take]
    exact hp (by omega) (by omega))
  rw [this, List.take_take, Nat.min_eq_left (by omega)]
theorem fr_le {p : UInt8 → Bool} (l : List UInt8) (most : Nat) : (frL most p l).length ≤ l.length ∧ (frL most p l).length ≤ most := by
  have hle := takeWhile_len (p := p) (l.take most)
  rw [List.length_take] at hle
  unfold frL
  omega
theorem get0 (l : List UInt8) (k : Nat) (h : k < l.length) (hh : k < (bl l).size) : (bl l)[k]'hh = l[k] := by
  rfl
theorem below_putC {w W : World} (h : Below w.heap.size w W) {g j : Nat} {v : Value} {cs : Array Value} {t : TypeId} (H : w.heap[g]? = some (.cells cs t (0, 0))) : Below w.heap.size (w.setCell ⟨g, j, none⟩ v) (W.setCell ⟨g, j, none⟩ v) := by
  have z1 : (w.setCell ⟨g, j, none⟩ v).heap.size = w.heap.size := by simp
  have z2 : (W.setCell ⟨g, j, none⟩ v).heap.size = W.heap.size := by simp
  have a1 := Below.setCell (Below.refl 0 w) (p := ⟨g, j, none⟩) (Nat.zero_le _) v
  have a2 := Below.setCell (Below.refl 0 W) (p := ⟨g, j, none⟩) (Nat.zero_le _) v
  refine ⟨(a2.os.trans h.os).trans a1.os.symm, (a2.tape.trans h.tape).trans a1.tape.symm, (a2.output.trans h.output).trans a1.output.symm, by rw [z1, z2]; exact h.size, fun k hk => ?_⟩
  by_cases e : k = g
  · subst e
    exact (blk_put (blk_below H h) j v rfl).trans (blk_put H j v rfl).symm
  · exact (Below.heap_setCell W ⟨g, j, none⟩ v k e).trans ((h.block k hk).trans (Below.heap_setCell w ⟨g, j, none⟩ v k e).symm)
set_option maxHeartbeats 4000000 in
set_option maxRecDepth 100000 in
theorem cut_dol (l : List UInt8) (most : Nat) (w : World) (b : Nat) (hlen : l.length ≤ 100000) (hm : most ≤ 100000) (hb : w.heap[b]? = some (.cells #[.string (bl l)] 9 (0, 0))) :
    Calls Tryz.prog 85 #[.int .i64 (most : Int), .func (.func 66) #[] #[], ptV b] w fun e w' => e = .returned (.string (bl (frL most d36 l))) ∧ Below w.heap.size (w.setCell ⟨b, 0, none⟩ (.string (bl (rsL most d36 l)))) w' := by
  obtain ⟨s, hs⟩ : ∃ s, s = bl l := ⟨_, rfl⟩
  have hsz : s.size = l.length := by rw [hs, bl_size]
  have HG := Aside0.mk (show ∀ k (h : k < l.length) (hh : k < s.size), s[k]'hh = l[k] from by subst hs; exact fun k h hh => get0 l k h hh)
  have HX := Aside0.mk (show ∀ k, k ≤ l.length → s.extract 0 k = bl (l.take k) from fun k hk => by rw [hs, bl_extract]; simp)
  have HY := Aside0.mk (show ∀ k, s.extract k l.length = bl (l.drop k) from fun k => by rw [hs, bl_extract, List.take_length])
  rw [← hs] at hb
  clear hs
  have Hb := Aside0.mk hb
  clear hb
  have qb := (blk_cell Hb.out 0).trans (show _ = some (Value.string s) from rfl)
  go_enter Tryz.func85, Tryz.ntmps85
  go_wp2
  go_loopw [6] (fun v wr => ∃ k : Nat, k ≤ (frL most d36 l).length ∧ v = .int .i64 (k : Int) ∧ Aside0 (Below w.heap.size w wr)) (fun v _ => l.length - (intOf v).toNat)
  case atStart => exact ⟨0, Nat.zero_le _, rfl, ⟨Below.refl _ _⟩⟩
  case round =>
    clear qb
    obtain ⟨k, hk, rfl, HB⟩ := hrel
    have hle := fr_le (p := d36) l most
    have qb := (blk_cell (blk_below Hb.out HB.out) 0).trans (show _ = some (Value.string s) from rfl)
    have fin_ := Aside0.mk fun (hE : frL most d36 l = l.take k) (W : World) (hW : Below w.heap.size w W) =>
      (show bl (frL most d36 l) = s.extract 0 k ∧ Below w.heap.size (w.setCell ⟨b, 0, none⟩ (.string (bl (rsL most d36 l)))) (W.setCell ⟨b, 0, none⟩ (.string (s.extract k l.length))) from by
        refine ⟨by rw [hE, HX.out k (by omega)], ?_⟩
        have e1 : (frL most d36 l).length = k := by rw [hE, List.length_take]; omega
        unfold rsL
        rw [e1, HY.out k]
        exact below_putC hW Hb.out)
    by_cases hkl : k < l.length
    · by_cases hkm : k < most
      · have hd1 : decide ((k : Int) < (l.length : Int)) = true := decide_eq_true (by omega)
        have hd2 : decide ((k : Int) < (most : Int)) = true := decide_eq_true (by omega)
        have hz1 : (k : Int) < (l.length : Int) := by omega
        have hz2 : (k : Int) < (most : Int) := by omega
        have hlt0 : k < s.size := by omega
        have ht := HG.out k hkl hlt0
        have HP := Aside0.mk (fr_step (p := d36) l most k hkl hkm hk)
        have HQ := Aside0.mk (fr_stop (p := d36) l most k hk)
        generalize hc : l[k] = c at ht HP
        have HC := Aside0.mk fun W => parse1_so c W
        by_cases hp : d36 c = true
        · rw [hp] at HC
          have HR := Aside0.mk (HP.out hp)
          clear hp HP HQ hc fin_
          go_wp2_with (go_at_call 66; (with_reducible refine (HC.out _).mono ?_); rintro e w1 ⟨rfl, hb1⟩; have HB1 := Aside0.mk (below_step HB.out hb1); clear hb1)
          go_roundw
          case rel => exact ⟨k + 1, HR.out, by congr 1 <;> (unfold wrap64; omega), HB1⟩
          case measure =>
            simp only [intOf]
            omega
        · have HE := Aside0.mk (HQ.out (fun _ _ => by rw [hc]; exact Bool.eq_false_iff.2 hp))
          rw [Bool.eq_false_iff.2 hp] at HC
          clear hp HP HQ hc
          have z3 : k ≤ l.length := by omega
          go_wp2_with (go_at_call 66; (with_reducible refine (HC.out _).mono ?_); rintro e w1 ⟨rfl, hb1⟩; have HB1 := Aside0.mk (below_step HB.out hb1); clear hb1; have hcb := fun i => blk_cell (blk_below Hb.out HB1.out) i; have hfb := fun i => blk_frozen (blk_below Hb.out HB1.out) i)
          go_ret
          obtain ⟨h1, h2⟩ := fin_.out HE.out _ HB1.out
          exact ⟨by rw [h1]; rfl, h2⟩
      · have hd1 : decide ((k : Int) < (l.length : Int)) = true := decide_eq_true (by omega)
        have hd2 : decide ((k : Int) < (most : Int)) = false := decide_eq_false (by omega)
        have hz1 : (k : Int) < (l.length : Int) := by omega
        have hz2 : ¬(k : Int) < (most : Int) := by omega
        have HE := Aside0.mk (fr_stop (p := d36) l most k hk (fun _ h => absurd h hkm))
        have z3 : k ≤ l.length := by omega
        have hfb := fun i => blk_frozen (blk_below Hb.out HB.out) i
        go_wp2
        go_ret
        obtain ⟨h1, h2⟩ := fin_.out HE.out _ HB.out
        exact ⟨by rw [h1]; rfl, h2⟩
    · have hd1 : decide ((k : Int) < (l.length : Int)) = false := decide_eq_false (by omega)
      have hz1 : ¬(k : Int) < (l.length : Int) := by omega
      have HE := Aside0.mk (fr_stop (p := d36) l most k hk (fun h => absurd h hkl))
      have z3 : k ≤ l.length := by omega
      have hfb := fun i => blk_frozen (blk_below Hb.out HB.out) i
      go_wp2
      go_ret
      obtain ⟨h1, h2⟩ := fin_.out HE.out _ HB.out
      exact ⟨by rw [h1]; rfl, h2⟩
set_option maxHeartbeats 4000000 in
set_option maxRecDepth 100000 in
theorem cut_dig (l : List UInt8) (most : Nat) (w : World) (b : Nat) (hlen : l.length ≤ 100000) (hm : most ≤ 100000) (hb : w.heap[b]? = some (.cells #[.string (bl l)] 9 (0, 0))) :
    Calls Tryz.prog 85 #[.int .i64 (most : Int), .func (.func 67) #[] #[], ptV b] w fun e w' => e = .returned (.string (bl (frL most dg l))) ∧ Below w.heap.size (w.setCell ⟨b, 0, none⟩ (.string (bl (rsL most dg l)))) w' := by
  obtain ⟨s, hs⟩ : ∃ s, s = bl l := ⟨_, rfl⟩
  have hsz : s.size = l.length := by rw [hs, bl_size]
  have HG := Aside0.mk (show ∀ k (h : k < l.length) (hh : k < s.size), s[k]'hh = l[k] from by subst hs; exact fun k h hh => get0 l k h hh)
  have HX := Aside0.mk (show ∀ k, k ≤ l.length → s.extract 0 k = bl (l.take k) from fun k hk => by rw [hs, bl_extract]; simp)
  have HY := Aside0.mk (show ∀ k, s.extract k l.length = bl (l.drop k) from fun k => by rw [hs, bl_extract, List.take_length])
  rw [← hs] at hb
  clear hs
  have Hb := Aside0.mk hb
  clear hb
  have qb := (blk_cell Hb.out 0).trans (show _ = some (Value.string s) from rfl)
  go_enter Tryz.func85, Tryz.ntmps85
  go_wp2
  go_loopw [6] (fun v wr => ∃ k : Nat, k ≤ (frL most dg l).length ∧ v = .int .i64 (k : Int) ∧ Aside0 (Below w.heap.size w wr)) (fun v _ => l.length - (intOf v).toNat)
  case atStart => exact ⟨0, Nat.zero_le _, rfl, ⟨Below.refl _ _⟩⟩
  case round =>
    clear qb
    obtain ⟨k, hk, rfl, HB⟩ := hrel
    have hle := fr_le (p := dg) l most
    have qb := (blk_cell (blk_below Hb.out HB.out) 0).trans (show _ = some (Value.string s) from rfl)
    have fin_ := Aside0.mk fun (hE : frL most dg l = l.take k) (W : World) (hW : Below w.heap.size w W) =>
      (show bl (frL most dg l) = s.extract 0 k ∧ Below w.heap.size (w.setCell ⟨b, 0, none⟩ (.string (bl (rsL most dg l)))) (W.setCell ⟨b, 0, none⟩ (.string (s.extract k l.length))) from by
        refine ⟨by rw [hE, HX.out k (by omega)], ?_⟩
        have e1 : (frL most dg l).length = k := by rw [hE, List.length_take]; omega
        unfold rsL
        rw [e1, HY.out k]
        exact below_putC hW Hb.out)
    by_cases hkl : k < l.length
    · by_cases hkm : k < most
      · have hd1 : decide ((k : Int) < (l.length : Int)) = true := decide_eq_true (by omega)
        have hd2 : decide ((k : Int) < (most : Int)) = true := decide_eq_true (by omega)
        have hz1 : (k : Int) < (l.length : Int) := by omega
        have hz2 : (k : Int) < (most : Int) := by omega
        have hlt0 : k < s.size := by omega
        have ht := HG.out k hkl hlt0
        have HP := Aside0.mk (fr_step (p := dg) l most k hkl hkm hk)
        have HQ := Aside0.mk (fr_stop (p := dg) l most k hk)
        generalize hc : l[k] = c at ht HP
        have HC := Aside0.mk fun W => parse2_so c W
        by_cases hp : dg c = true
        · rw [hp] at HC
          have HR := Aside0.mk (HP.out hp)
          clear hp HP HQ hc fin_
          go_wp2_with (go_at_call 67; (with_reducible refine (HC.out _).mono ?_); rintro e w1 ⟨rfl, hb1⟩; have HB1 := Aside0.mk (below_step HB.out hb1); clear hb1)
          go_roundw
          case rel => exact ⟨k + 1, HR.out, by congr 1 <;> (unfold wrap64; omega), HB1⟩
          case measure =>
            simp only [intOf]
            omega
        · have HE := Aside0.mk (HQ.out (fun _ _ => by rw [hc]; exact Bool.eq_false_iff.2 hp))
          rw [Bool.eq_false_iff.2 hp] at HC
          clear hp HP HQ hc
          have z3 : k ≤ l.length := by omega
          go_wp2_with (go_at_call 67; (with_reducible refine (HC.out _).mono ?_); rintro e w1 ⟨rfl, hb1⟩; have HB1 := Aside0.mk (below_step HB.out hb1); clear hb1; have hcb := fun i => blk_cell (blk_below Hb.out HB1.out) i; have hfb := fun i => blk_frozen (blk_below Hb.out HB1.out) i)
          go_ret
          obtain ⟨h1, h2⟩ := fin_.out HE.out _ HB1.out
          exact ⟨by rw [h1]; rfl, h2⟩
      · have hd1 : decide ((k : Int) < (l.length : Int)) = true := decide_eq_true (by omega)
        have hd2 : decide ((k : Int) < (most : Int)) = false := decide_eq_false (by omega)
        have hz1 : (k : Int) < (l.length : Int) := by omega
        have hz2 : ¬(k : Int) < (most : Int) := by omega
        have HE := Aside0.mk (fr_stop (p := dg) l most k hk (fun _ h => absurd h hkm))
        have z3 : k ≤ l.length := by omega
        have hfb := fun i => blk_frozen (blk_below Hb.out HB.out) i
        go_wp2
        go_ret
        obtain ⟨h1, h2⟩ := fin_.out HE.out _ HB.out
        exact ⟨by rw [h1]; rfl, h2⟩
    · have hd1 : decide ((k : Int) < (l.length : Int)) = false := decide_eq_false (by omega)
      have hz1 : ¬(k : Int) < (l.length : Int) := by omega
      have HE := Aside0.mk (fr_stop (p := dg) l most k hk (fun h => absurd h hkl))
      have z3 : k ≤ l.length := by omega
      have hfb := fun i => blk_frozen (blk_below Hb.out HB.out) i
      go_wp2
      go_ret
      obtain ⟨h1, h2⟩ := fin_.out HE.out _ HB.out
      exact ⟨by rw [h1]; rfl, h2⟩
set_option maxHeartbeats 4000000 in
set_option maxRecDepth 100000 in
theorem cut_let (l : List UInt8) (most : Nat) (w : World) (b : Nat) (hlen : l.length ≤ 100000) (hm : most ≤ 100000) (hb : w.heap[b]? = some (.cells #[.string (bl l)] 9 (0, 0))) :
    Calls Tryz.prog 85 #[.int .i64 (most : Int), .func (.func 68) #[] #[], ptV b] w fun e w' => e = .returned (.string (bl (frL most ltB l))) ∧ Below w.heap.size (w.setCell ⟨b, 0, none⟩ (.string (bl (rsL most ltB l)))) w' := by
  obtain ⟨s, hs⟩ : ∃ s, s = bl l := ⟨_, rfl⟩
  have hsz : s.size = l.length := by rw [hs, bl_size]
  have HG := Aside0.mk (show ∀ k (h : k < l.length) (hh : k < s.size), s[k]'hh = l[k] from by subst hs; exact fun k h hh => get0 l k h hh)
  have HX := Aside0.mk (show ∀ k, k ≤ l.length → s.extract 0 k = bl (l.take k) from fun k hk => by rw [hs, bl_extract]; simp)
  have HY := Aside0.mk (show ∀ k, s.extract k l.length = bl (l.drop k) from fun k => by rw [hs, bl_extract, List.take_length])
  rw [← hs] at hb
  clear hs
  have Hb := Aside0.mk hb
  clear hb
  have qb := (blk_cell Hb.out 0).trans (show _ = some (Value.string s) from rfl)
  go_enter Tryz.func85, Tryz.ntmps85
  go_wp2
  go_loopw [6] (fun v wr => ∃ k : Nat, k ≤ (frL most ltB l).length ∧ v = .int .i64 (k : Int) ∧ Aside0 (Below w.heap.size w wr)) (fun v _ => l.length - (intOf v).toNat)
  case atStart => exact ⟨0, Nat.zero_le _, rfl, ⟨Below.refl _ _⟩⟩
  case round =>
    clear qb
    obtain ⟨k, hk, rfl, HB⟩ := hrel
    have hle := fr_le (p := ltB) l most
    have qb := (blk_cell (blk_below Hb.out HB.out) 0).trans (show _ = some (Value.string s) from rfl)
    have fin_ := Aside0.mk fun (hE : frL most ltB l = l.take k) (W : World) (hW : Below w.heap.size w W) =>
      (show bl (frL most ltB l) = s.extract 0 k ∧ Below w.heap.size (w.setCell ⟨b, 0, none⟩ (.string (bl (rsL most ltB l)))) (W.setCell ⟨b, 0, none⟩ (.string (s.extract k l.length))) from by
        refine ⟨by rw [hE, HX.out k (by omega)], ?_⟩
        have e1 : (frL most ltB l).length = k := by rw [hE, List.length_take]; omega
        unfold rsL
        rw [e1, HY.out k]
        exact below_putC hW Hb.out)
    by_cases hkl : k < l.length
    · by_cases hkm : k < most
      · have hd1 : decide ((k : Int) < (l.length : Int)) = true := decide_eq_true (by omega)
        have hd2 : decide ((k : Int) < (most : Int)) = true := decide_eq_true (by omega)
        have hz1 : (k : Int) < (l.length : Int) := by omega
        have hz2 : (k : Int) < (most : Int) := by omega
        have hlt0 : k < s.size := by omega
        have ht := HG.out k hkl hlt0
        have HP := Aside0.mk (fr_step (p := ltB) l most k hkl hkm hk)
        have HQ := Aside0.mk (fr_stop (p := ltB) l most k hk)
        generalize hc : l[k] = c at ht HP
        have HC := Aside0.mk fun W => parse3_so c W
        by_cases hp : ltB c = true
        · rw [hp] at HC
          have HR := Aside0.mk (HP.out hp)
          clear hp HP HQ hc fin_
          go_wp2_with (go_at_call 68; (with_reducible refine (HC.out _).mono ?_); rintro e w1 ⟨rfl, hb1⟩; have HB1 := Aside0.mk (below_step HB.out hb1); clear hb1)
          go_roundw
          case rel => exact ⟨k + 1, HR.out, by congr 1 <;> (unfold wrap64; omega), HB1⟩
          case measure =>
            simp only [intOf]
            omega
        · have HE := Aside0.mk (HQ.out (fun _ _ => by rw [hc]; exact Bool.eq_false_iff.2 hp))
          rw [Bool.eq_false_iff.2 hp] at HC
          clear hp HP HQ hc
          have z3 : k ≤ l.length := by omega
          go_wp2_with (go_at_call 68; (with_reducible refine (HC.out _).mono ?_); rintro e w1 ⟨rfl, hb1⟩; have HB1 := Aside0.mk (below_step HB.out hb1); clear hb1; have hcb := fun i => blk_cell (blk_below Hb.out HB1.out) i; have hfb := fun i => blk_frozen (blk_below Hb.out HB1.out) i)
          go_ret
          obtain ⟨h1, h2⟩ := fin_.out HE.out _ HB1.out
          exact ⟨by rw [h1]; rfl, h2⟩
      · have hd1 : decide ((k : Int) < (l.length : Int)) = true := decide_eq_true (by omega)
        have hd2 : decide ((k : Int) < (most : Int)) = false := decide_eq_false (by omega)
        have hz1 : (k : Int) < (l.length : Int) := by omega
        have hz2 : ¬(k : Int) < (most : Int) := by omega
        have HE := Aside0.mk (fr_stop (p := ltB) l most k hk (fun _ h => absurd h hkm))
        have z3 : k ≤ l.length := by omega
        have hfb := fun i => blk_frozen (blk_below Hb.out HB.out) i
        go_wp2
        go_ret
        obtain ⟨h1, h2⟩ := fin_.out HE.out _ HB.out
        exact ⟨by rw [h1]; rfl, h2⟩
    · have hd1 : decide ((k : Int) < (l.length : Int)) = false := decide_eq_false (by omega)
      have hz1 : ¬(k : Int) < (l.length : Int) := by omega
      have HE := Aside0.mk (fr_stop (p := ltB) l most k hk (fun h => absurd h hkl))
      have z3 : k ≤ l.length := by omega
      have hfb := fun i => blk_frozen (blk_below Hb.out HB.out) i
      go_wp2
      go_ret
      obtain ⟨h1, h2⟩ := fin_.out HE.out _ HB.out
      exact ⟨by rw [h1]; rfl, h2⟩
set_option maxHeartbeats 4000000 in
set_option maxRecDepth 100000 in
theorem cut_all (l : List UInt8) (most : Nat) (w : World) (b : Nat) (hlen : l.length ≤ 100000) (hm : most ≤ 100000) (hb : w.heap[b]? = some (.cells #[.string (bl l)] 9 (0, 0))) :
    Calls Tryz.prog 85 #[.int .i64 (most : Int), .func (.func 70) #[] #[], ptV b] w fun e w' => e = .returned (.string (bl (frL most yesB l))) ∧ Below w.heap.size (w.setCell ⟨b, 0, none⟩ (.string (bl (rsL most yesB l)))) w' := by
  obtain ⟨s, hs⟩ : ∃ s, s = bl l := ⟨_, rfl⟩
  have hsz : s.size = l.length := by rw [hs, bl_size]
  have HG := Aside0.mk (show ∀ k (h : k < l.length) (hh : k < s.size), s[k]'hh = l[k] from by subst hs; exact fun k h hh => get0 l k h hh)
  have HX := Aside0.mk (show ∀ k, k ≤ l.length → s.extract 0 k = bl (l.take k) from fun k hk => by rw [hs, bl_extract]; simp)
  have HY := Aside0.mk (show ∀ k, s.extract k l.length = bl (l.drop k) from fun k => by rw [hs, bl_extract, List.take_length])
  rw [← hs] at hb
  clear hs
  have Hb := Aside0.mk hb
  clear hb
  have qb := (blk_cell Hb.out 0).trans (show _ = some (Value.string s) from rfl)
  go_enter Tryz.func85, Tryz.ntmps85
  go_wp2
  go_loopw [6] (fun v wr => ∃ k : Nat, k ≤ (frL most yesB l).length ∧ v = .int .i64 (k : Int) ∧ Aside0 (Below w.heap.size w wr)) (fun v _ => l.length - (intOf v).toNat)
  case atStart => exact ⟨0, Nat.zero_le _, rfl, ⟨Below.refl _ _⟩⟩
  case round =>
    clear qb
    obtain ⟨k, hk, rfl, HB⟩ := hrel
    have hle := fr_le (p := yesB) l most
    have qb := (blk_cell (blk_below Hb.out HB.out) 0).trans (show _ = some (Value.string s) from rfl)
    have fin_ := Aside0.mk fun (hE : frL most yesB l = l.take k) (W : World) (hW : Below w.heap.size w W) =>
      (show bl (frL most yesB l) = s.extract 0 k ∧ Below w.heap.size (w.setCell ⟨b, 0, none⟩ (.string (bl (rsL most yesB l)))) (W.setCell ⟨b, 0, none⟩ (.string (s.extract k l.length))) from by
        refine ⟨by rw [hE, HX.out k (by omega)], ?_⟩
        have e1 : (frL most yesB l).length = k := by rw [hE, List.length_take]; omega
        unfold rsL
        rw [e1, HY.out k]
        exact below_putC hW Hb.out)
    by_cases hkl : k < l.length
    · by_cases hkm : k < most
      · have hd1 : decide ((k : Int) < (l.length : Int)) = true := decide_eq_true (by omega)
        have hd2 : decide ((k : Int) < (most : Int)) = true := decide_eq_true (by omega)
        have hz1 : (k : Int) < (l.length : Int) := by omega
        have hz2 : (k : Int) < (most : Int) := by omega
        have hlt0 : k < s.size := by omega
        have ht := HG.out k hkl hlt0
        have HP := Aside0.mk (fr_step (p := yesB) l most k hkl hkm hk)
        have HQ := Aside0.mk (fr_stop (p := yesB) l most k hk)
        generalize hc : l[k] = c at ht HP
        have HC := Aside0.mk fun W => parse4_so c W
        by_cases hp : yesB c = true
        · rw [hp] at HC
          have HR := Aside0.mk (HP.out hp)
          clear hp HP HQ hc fin_
          go_wp2_with (go_at_call 70; (with_reducible refine (HC.out _).mono ?_); rintro e w1 ⟨rfl, hb1⟩; have HB1 := Aside0.mk (below_step HB.out hb1); clear hb1)
          go_roundw
          case rel => exact ⟨k + 1, HR.out, by congr 1 <;> (unfold wrap64; omega), HB1⟩
          case measure =>
            simp only [intOf]
            omega
        · have HE := Aside0.mk (HQ.out (fun _ _ => by rw [hc]; exact Bool.eq_false_iff.2 hp))
          rw [Bool.eq_false_iff.2 hp] at HC
          clear hp HP HQ hc
          have z3 : k ≤ l.length := by omega
          go_wp2_with (go_at_call 70; (with_reducible refine (HC.out _).mono ?_); rintro e w1 ⟨rfl, hb1⟩; have HB1 := Aside0.mk (below_step HB.out hb1); clear hb1; have hcb := fun i => blk_cell (blk_below Hb.out HB1.out) i; have hfb := fun i => blk_frozen (blk_below Hb.out HB1.out) i)
          go_ret
          obtain ⟨h1, h2⟩ := fin_.out HE.out _ HB1.out
          exact ⟨by rw [h1]; rfl, h2⟩
      · have hd1 : decide ((k : Int) < (l.length : Int)) = true := decide_eq_true (by omega)
        have hd2 : decide ((k : Int) < (most : Int)) = false := decide_eq_false (by omega)
        have hz1 : (k : Int) < (l.length : Int) := by omega
        have hz2 : ¬(k : Int) < (most : Int) := by omega
        have HE := Aside0.mk (fr_stop (p := yesB) l most k hk (fun _ h => absurd h hkm))
        have z3 : k ≤ l.length := by omega
        have hfb := fun i => blk_frozen (blk_below Hb.out HB.out) i
        go_wp2
        go_ret
        obtain ⟨h1, h2⟩ := fin_.out HE.out _ HB.out
        exact ⟨by rw [h1]; rfl, h2⟩
    · have hd1 : decide ((k : Int) < (l.length : Int)) = false := decide_eq_false (by omega)
      have hz1 : ¬(k : Int) < (l.length : Int) := by omega
      have HE := Aside0.mk (fr_stop (p := yesB) l most k hk (fun h => absurd h hkl))
      have z3 : k ≤ l.length := by omega
      have hfb := fun i => blk_frozen (blk_below Hb.out HB.out) i
      go_wp2
      go_ret
      obtain ⟨h1, h2⟩ := fin_.out HE.out _ HB.out
      exact ⟨by rw [h1]; rfl, h2⟩
end Go.Proofs.YtmppnobldhhpjaaGreatDoor.Pr
end
