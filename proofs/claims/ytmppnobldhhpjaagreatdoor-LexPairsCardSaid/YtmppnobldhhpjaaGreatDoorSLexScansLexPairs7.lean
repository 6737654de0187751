/-
  Lemmas for the law LexScansLexPairs.
-/
import Derived.Test.YtmppnobldhhpjaaGreatDoorSLexScansLexPairs4
import Derived.Test.YtmppnobldhhpjaaGreatDoorSLexScansLexPairs5
import Derived.Test.YtmppnobldhhpjaaGreatDoorSLexScansLexPairs6
import Derived.BigQuiet
import Derived.Deep.QuietTactic
import Derived.Lib.AppendIntMem
import Derived.Lib.SmallJoins
import Derived.Shelf.Strings.SlTrimAscii
section
namespace Go.Proofs.YtmppnobldhhpjaaGreatDoor.Pr
open Go.RowKit Go.Proofs.YtmppnobldhhpjaaGreatDoorW.PrintWords Go.Proofs.YtmppnobldhhpjaaGreatDoorW.PrintLast Go.Proofs.YtmppnobldhhpjaaGreatDoorW.PrintMore
def strconv_Atoi.f (a0 : ByteArray) : Option (Int × Option Int) :=
  if a0.size ≤ 18 then (match Lib.atoi a0.data.toList with | some v => some (v, none) | none => none) else none
theorem strconv_Atoi.calls (a0 : ByteArray) (r1 : Int) (r2 : Option Int) (w : World) (h : strconv_Atoi.f a0 = some (r1, r2)) :
    Calls Tryz.prog 72 #[.string a0] w fun e w' => e = .returned (.tuple #[.int .i64 r1, errW r2]) ∧ Below w.heap.size w w' := by
  unfold strconv_Atoi.f at h
  split at h
  · rename_i c
    cases hu : Lib.atoi a0.data.toList with
    | some v =>
      rw [hu] at h
      obtain ⟨rfl, rfl⟩ := Prod.mk.inj (Option.some.inj h)
      exact (Tryz.strconv_Atoi a0 v c hu w).mono fun e w' ⟨h1, h2⟩ => ⟨h1, by obtain ⟨t, rfl⟩ := h2; exact bytes_below (Below.refl _ _) (Nat.le_refl _) _ _⟩
    | none => rw [hu] at h; exact absurd h (by simp)
  · exact absurd h (by simp)
def strconv_ParseUint.f (a0 : ByteArray) (a1 : Int) (a2 : Int) : Option (Int × Option Int) :=
  if a1 = 10 ∧ a2 = 64 ∧ a0.size ≤ 9223372036854775806 then (match Lib.parseUintB 64 a0.data.toList with | .ok u => some ((u : Int), none) | _ => none) else none
theorem strconv_ParseUint.calls (a0 : ByteArray) (a1 : Int) (a2 : Int) (r1 : Int) (r2 : Option Int) (w : World) (h : strconv_ParseUint.f a0 a1 a2 = some (r1, r2)) :
    Calls Tryz.prog 57 #[.string a0, .int .i64 a1, .int .i64 a2] w fun e w' => e = .returned (.tuple #[.int .u64 r1, errW r2]) ∧ Below w.heap.size w w' := by
  unfold strconv_ParseUint.f at h
  split at h
  · rename_i c
    obtain ⟨rfl, rfl, c3⟩ := c
    cases hu : Lib.parseUintB 64 a0.data.toList with
    | ok u =>
      rw [hu] at h
      obtain ⟨rfl, rfl⟩ := Prod.mk.inj (Option.some.inj h)
      refine (Tryz.strconv_ParseUint_10_at64_ok a0 c3 u hu w).mono fun e w' ⟨h1, h2⟩ => ⟨h1, ?_⟩
      rcases h2 with rfl | rfl
      · exact Below.refl _ _
      · exact bytes_below (Below.refl _ _) (Nat.le_refl _) _ _
    | _ => rw [hu] at h; exact absurd h (by simp)
  · exact absurd h (by simp)
def strings_Cut.f (a0 : ByteArray) (a1 : ByteArray) : Option (ByteArray × ByteArray × Bool) :=
  match a1.data.toList with
  | [c] => if a0.size ≤ 9223372036854775806 then (if Lib.indexByte a0.data.toList c = -1 then some (a0, (⟨#[]⟩ : ByteArray), false)
      else if 0 ≤ Lib.indexByte a0.data.toList c ∧ Lib.indexByte a0.data.toList c < a0.size then some (a0.extract 0 (Lib.indexByte a0.data.toList c).toNat, a0.extract ((Lib.indexByte a0.data.toList c).toNat + 1) a0.size, true) else none) else none
  | _ => none
theorem strings_Cut_lite (a0 : ByteArray) (c : UInt8) (r1 r2 : ByteArray) (r3 : Bool) (w : World) (h : strings_Cut.f a0 ⟨#[c]⟩ = some (r1, r2, r3)) :
    Calls Tryz.prog 58 #[.string a0, .string ⟨#[c]⟩] w fun e w' => e = .returned (.tuple #[.string r1, .string r2, .bool r3]) ∧ Drawn0 w w' := by
  unfold strings_Cut.f at h
  simp only at h
  split at h
  · rename_i hs
    split at h
    · rename_i hi
      simp only [Option.some.injEq, Prod.mk.injEq] at h
      obtain ⟨rfl, rfl, rfl⟩ := h
      have HI := Aside0.mk hi
      clear hi
      go_enter Tryz.func58, Tryz.ntmps58
      go_wp2_with (go_at_call 81; refine (Tryz.stringslite_Index_one a0 c _).mono ?_; rw [HI.out]; rintro e w' ⟨rfl, rfl⟩)
      go_ret3
      exact ⟨rfl, Drawn0.refl _⟩
    · split at h
      · rename_i hi
        simp only [Option.some.injEq, Prod.mk.injEq] at h
        obtain ⟨rfl, rfl, rfl⟩ := h
        obtain ⟨i, hi3⟩ : ∃ i, i = Lib.indexByte a0.data.toList c := ⟨_, rfl⟩
        rw [← hi3] at hi ⊢
        obtain ⟨h0, h1⟩ := hi
        have HI := Aside0.mk hi3
        clear hi3
        have h2 : i + 1 ≤ (a0.size : Int) := by omega
        have h3 : i ≤ (a0.size : Int) := by omega
        have h4 : 0 ≤ i + 1 := by omega
        have ht : (i + 1).toNat = i.toNat + 1 := by omega
        have HT := Aside0.mk ht
        clear ht
        go_enter Tryz.func58, Tryz.ntmps58
        go_wp2_with (go_at_call 81; refine (Tryz.stringslite_Index_one a0 c _).mono ?_; rw [← HI.out]; rintro e w' ⟨rfl, rfl⟩)
        go_quiet (fail)
        go_wp2
        go_ret3
        rw [HT.out]
        exact ⟨rfl, ⟨_, rfl⟩⟩
      · exact absurd h (by simp)
  · exact absurd h (by simp)
theorem strings_Cut.calls (a0 : ByteArray) (a1 : ByteArray) (r1 : ByteArray) (r2 : ByteArray) (r3 : Bool) (w : World) (h : strings_Cut.f a0 a1 = some (r1, r2, r3)) :
    Calls Tryz.prog 41 #[.string a0, .string a1] w fun e w' => e = .returned (.tuple #[.string r1, .string r2, .bool r3]) ∧ Drawn0 w w' := by
  obtain ⟨c, rfl⟩ : ∃ c, a1 = ⟨#[c]⟩ := by
    obtain ⟨⟨l⟩⟩ := a1
    unfold strings_Cut.f at h
    match l, h with
    | [c], _ => exact ⟨c, rfl⟩
  go_enter Tryz.func41, Tryz.ntmps41
  go_wp2_with (go_at_call 58; refine (strings_Cut_lite a0 c r1 r2 r3 _ h).mono ?_; rintro e w' ⟨rfl, hd⟩)
  go_ret3
  exact ⟨rfl, hd⟩
def strings_CutPrefix.f (a0 : ByteArray) (a1 : ByteArray) : Option (ByteArray × Bool) :=
  some (⟨(Lib.trimPrefix a0.data.toList a1.data.toList).toArray⟩, Lib.hasPrefix a0.data.toList a1.data.toList)
theorem strings_CutPrefix.calls (a0 : ByteArray) (a1 : ByteArray) (r1 : ByteArray) (r2 : Bool) (w : World) (h : strings_CutPrefix.f a0 a1 = some (r1, r2)) :
    Calls Tryz.prog 54 #[.string a0, .string a1] w fun e w' => e = .returned (.tuple #[.string r1, .bool r2]) ∧ Drawn0 w w' := by
  obtain ⟨rfl, rfl⟩ := Prod.mk.inj (Option.some.inj h)
  exact (Tryz.strings_CutPrefix a0 a1 w).mono fun e w' ⟨h1, h2⟩ => ⟨h1, h2 ▸ Drawn0.refl _⟩
def strings_HasPrefix.f (a0 : ByteArray) (a1 : ByteArray) : Option (Bool) := some (Lib.hasPrefix a0.data.toList a1.data.toList)
theorem strings_HasPrefix.calls (a0 : ByteArray) (a1 : ByteArray) (r : Bool) (w : World) (h : strings_HasPrefix.f a0 a1 = some r) :
    Calls Tryz.prog 42 #[.string a0, .string a1] w fun e w' => e = .returned (.bool r) ∧ Drawn0 w w' := by
  obtain rfl := Option.some.inj h
  exact (Tryz.strings_HasPrefix a0 a1 w).mono fun e w' ⟨h1, h2⟩ => ⟨h1, h2 ▸ Drawn0.refl _⟩
def strings_Trim.f (a0 : ByteArray) (a1 : ByteArray) : Option (ByteArray) :=
  if a1.size < 4294967281 ∧ a1.data.toList.all (fun b => decide (b.toNat < 128)) = true ∧ a0.size ≤ 9223372036854775807 then some ⟨(Lib.trimS a0.data.toList a1.data.toList).toArray⟩ else none
theorem strings_Trim.calls (a0 : ByteArray) (a1 : ByteArray) (r : ByteArray) (w : World) (h : strings_Trim.f a0 a1 = some r) :
    Calls Tryz.prog 74 #[.string a0, .string a1] w fun e w' => e = .returned (.string r) ∧ Below w.heap.size w w' := by
  unfold strings_Trim.f at h
  split at h
  · rename_i c
    obtain rfl := Option.some.inj h
    exact Any.strings_Trim_laid Tryz.lays160 (by kernel_rfl) a0 a1 w c.2.2 c.1 (ascii_of_all c.2.1)
  · exact absurd h (by simp)
def strings_TrimLeft.f (a0 : ByteArray) (a1 : ByteArray) : Option (ByteArray) :=
  if a1.size < 4294967281 ∧ a1.data.toList.all (fun b => decide (b.toNat < 128)) = true then some ⟨(Lib.trimLeftS a0.data.toList a1.data.toList).toArray⟩ else none
theorem strings_TrimLeft.calls (a0 : ByteArray) (a1 : ByteArray) (r : ByteArray) (w : World) (h : strings_TrimLeft.f a0 a1 = some r) :
    Calls Tryz.prog 56 #[.string a0, .string a1] w fun e w' => e = .returned (.string r) ∧ Below w.heap.size w w' := by
  unfold strings_TrimLeft.f at h
  split at h
  · rename_i c
    obtain rfl := Option.some.inj h
    exact Any.strings_TrimLeft_laid Tryz.lays161 (by kernel_rfl) a0 a1 w c.1 (ascii_of_all c.2)
  · exact absurd h (by simp)
end Go.Proofs.YtmppnobldhhpjaaGreatDoor.Pr
end
section
namespace Go.Proofs.YtmppnobldhhpjaaGreatDoor.Pr
open Go.RowKit Go.Proofs.YtmppnobldhhpjaaGreatDoorW.PrintWords Go.Proofs.YtmppnobldhhpjaaGreatDoorW.PrintLast Go.Proofs.YtmppnobldhhpjaaGreatDoorW.PrintMore
attribute [local go_sem] max2_int min2_int max_two min_two max_three min_three max_four min_four   -- for this text's walks alone
set_option linter.unusedVariables false
set_option linter.unusedSimpArgs false
def num_digits.f (a0 : ByteArray) : Option (Bool) := if a0.toList = ([] : List UInt8) then (some false) else ((strings_Trim.f a0 (⟨#[48, 49, 50, 51, 52, 53, 54, 55, 56, 57]⟩ : ByteArray)).bind fun t101 => (some (t101.toList == ([] : List UInt8))))
set_option maxHeartbeats 8000000 in
set_option maxRecDepth 100000 in
theorem num_digits.calls (a0 : ByteArray) (r : Bool) (w : World) (h : num_digits.f a0 = some r) :
  Calls Tryz.prog 55 #[.string a0] w fun e w' => e = .returned (.bool r) ∧ Below w.heap.size w w' := by
 have HB := Aside0.mk (Below.refl w.heap.size w)
 have H : (if a0.toList = ([] : List UInt8) then (some false) else ((strings_Trim.f a0 (⟨#[48, 49, 50, 51, 52, 53, 54, 55, 56, 57]⟩ : ByteArray)).bind fun t101 => (some (t101.toList == ([] : List UInt8))))) = some r := h
 clear h
 by_cases c2 : a0.toList = ([] : List UInt8)
 ·rw [if_pos c2] at H
  have c2b0 : (a0.toList == ([] : List UInt8)) = true := beq_iff_eq.mpr c2
  have c2b1 : (a0.toList != ([] : List UInt8)) = false := bne_eq_false_iff_eq.mpr c2
  clear c2
  obtain rfl := Option.some.inj H
  go_enter Tryz.func55, Tryz.ntmps55
  go_wp2
  go_ret
  exact ⟨by first | rfl | (simp [errW_none, errW_some] <;> rfl) | (simp [*, errW_none, errW_some] <;> rfl), by repeat (first | (with_reducible first | exact HB.out | apply bqA | apply bqN | apply bqD) | exact HB.out)⟩
 ·rw [if_neg c2] at H
  have c2b0 : (a0.toList == ([] : List UInt8)) = false := beq_eq_false_iff_ne.mpr c2
  have c2b1 : (a0.toList != ([] : List UInt8)) = true := bne_iff_ne.mpr c2
  replace H := Option.bind_eq_some_iff.mp H
  obtain ⟨t101, A30, H⟩ := H
  replace H : (some (t101.toList == ([] : List UInt8))) = some r := H
  have A3 := Aside0.mk A30
  clear A30
  obtain rfl := Option.some.inj H
  go_enter Tryz.func55, Tryz.ntmps55
  go_wp2_with (first | (go_at_call 74; (with_reducible refine (strings_Trim.calls a0 (⟨#[48, 49, 50, 51, 52, 53, 54, 55, 56, 57]⟩ : ByteArray) t101 _ A3.out).mono ?_); rintro e w4 ⟨rfl, hb⟩; have n0_ := Aside0.mk (below_step (by repeat (first | (with_reducible first | exact HB.out | apply bqA | apply bqN | apply bqD) | exact HB.out)) hb); clear HB; have HB := n0_; clear n0_; (try clear hb); (try clear hb2); (try clear hk); (try clear hi)))
  go_ret
  exact ⟨by first | rfl | (simp [errW_none, errW_some] <;> rfl) | (simp [*, errW_none, errW_some] <;> rfl), by repeat (first | (with_reducible first | exact HB.out | apply bqA | apply bqN | apply bqD) | exact HB.out)⟩
def num_Parse.j0 : Nat → Bool → ByteArray → ByteArray → Bool → Option (Int × Int)
 | 0, _, _, _, _ => none
 | k + 1, x5, x6, x7, x40 => if x40 = true then (some (0, 5)) else ((strings_TrimLeft.f x6 (⟨#[48]⟩ : ByteArray)).bind fun t109 => (if (t109.size : Int) > 13 then (some (0, 3)) else (if 1 + t109.size ≤ 9223372036854775807 then (if x7.size + 6 ≤ 9223372036854775807 then (if 0 ≤ 6 then (if 6 ≤ ((x7 ++ (⟨#[48, 48, 48, 48, 48, 48]⟩ : ByteArray)).size : Int) then (if ((⟨#[48]⟩ : ByteArray) ++ t109).size + ((x7 ++ (⟨#[48, 48, 48, 48, 48, 48]⟩ : ByteArray)).extract 0 6).size ≤ 9223372036854775807 then ((strconv_ParseUint.f (((⟨#[48]⟩ : ByteArray) ++ t109) ++ ((x7 ++ (⟨#[48, 48, 48, 48, 48, 48]⟩ : ByteArray)).extract 0 6)) 10 64).bind fun bt110 => (if bt110.1 > 1000000000000000000 then (some (0, 3)) else (if x5 = true then (some (wrap64 (-(wrap64 (bt110.1))), 0)) else (some (wrap64 (bt110.1), 0))))) else (none)) else (none)) else (none)) else (none)) else (none))))
def num_Parse.f (k : Nat) (a0 : ByteArray) : Option (Int × Int) := if (a0.size : Int) > 40 then (some (0, 5)) else ((strings_CutPrefix.f a0 (⟨#[45]⟩ : ByteArray)).bind fun bt102 => ((strings_Cut.f bt102.1 (⟨#[46]⟩ : ByteArray)).bind fun bt104 => ((num_digits.f bt104.1).bind fun t107 => (if t107 = true then (if bt104.2.2 = true then ((num_digits.f bt104.2.1).bind fun t108 => (if t108 = true then (num_Parse.j0 k bt102.2 bt104.1 bt104.2.1 (decide ((bt104.2.1.size : Int) > 6))) else (num_Parse.j0 k bt102.2 bt104.1 bt104.2.1 true))) else (num_Parse.j0 k bt102.2 bt104.1 bt104.2.1 false)) else (num_Parse.j0 k bt102.2 bt104.1 bt104.2.1 true)))))
set_option maxHeartbeats 8000000 in
set_option maxRecDepth 100000 in
theorem num_Parse.calls (k : Nat) (a0 : ByteArray) (r1 : Int) (r2 : Int) (w : World) (h : num_Parse.f k a0 = some (r1, r2)) :
  Calls Tryz.prog 40 #[.string a0] w fun e w' => e = .returned (.tuple #[.int .i64 r1, .int .i64 r2]) ∧ Below w.heap.size w w' := by
 have HB := Aside0.mk (Below.refl w.heap.size w)
 have H : (if (a0.size : Int) > 40 then (some (0, 5)) else ((strings_CutPrefix.f a0 (⟨#[45]⟩ : ByteArray)).bind fun bt102 => ((strings_Cut.f bt102.1 (⟨#[46]⟩ : ByteArray)).bind fun bt104 => ((num_digits.f bt104.1).bind fun t107 => (if t107 = true then (if bt104.2.2 = true then ((num_digits.f bt104.2.1).bind fun t108 => (if t108 = true then (num_Parse.j0 k bt102.2 bt104.1 bt104.2.1 (decide ((bt104.2.1.size : Int) > 6))) else (num_Parse.j0 k bt102.2 bt104.1 bt104.2.1 true))) else (num_Parse.j0 k bt102.2 bt104.1 bt104.2.1 false)) else (num_Parse.j0 k bt102.2 bt104.1 bt104.2.1 true)))))) = some (r1, r2) := h
 clear h
 by_cases c2 : (a0.size : Int) > 40
 ·rw [if_pos c2] at H
  have c2b0 : decide (40 < (a0.size : Int)) = true := decide_eq_true c2
  have c2b1 : decide (40 < a0.size) = true := decide_eq_true (by omega)
  clear c2
  simp only [Option.some.injEq, Prod.mk.injEq] at H
  obtain ⟨rfl, rfl⟩ := H
  go_enter Tryz.func40, Tryz.ntmps40
  go_wp2
  go_ret2
  exact ⟨by first | rfl | (simp [errW_none, errW_some] <;> rfl) | (simp [*, errW_none, errW_some] <;> rfl), by repeat (first | (with_reducible first | exact HB.out | apply bqA | apply bqN | apply bqD) | exact HB.out)⟩
 ·rw [if_neg c2] at H
  have c2b0 : decide (40 < (a0.size : Int)) = false := decide_eq_false c2
  have c2b1 : decide (40 < a0.size) = false := decide_eq_false (by omega)
  clear c2
  replace H := Option.bind_eq_some_iff.mp H
  obtain ⟨⟨t102, t103⟩, A30, H⟩ := H
  replace H : ((strings_Cut.f t102 (⟨#[46]⟩ : ByteArray)).bind fun bt104 => ((num_digits.f bt104.1).bind fun t107 => (if t107 = true then (if bt104.2.2 = true then ((num_digits.f bt104.2.1).bind fun t108 => (if t108 = true then (num_Parse.j0 k t103 bt104.1 bt104.2.1 (decide ((bt104.2.1.size : Int) > 6))) else (num_Parse.j0 k t103 bt104.1 bt104.2.1 true))) else (num_Parse.j0 k t103 bt104.1 bt104.2.1 false)) else (num_Parse.j0 k t103 bt104.1 bt104.2.1 true)))) = some (r1, r2) := H
  have A3 := Aside0.mk A30
  clear A30
  replace H := Option.bind_eq_some_iff.mp H
  obtain ⟨⟨t104, t105, t106⟩, A40, H⟩ := H
  replace H : ((num_digits.f t104).bind fun t107 => (if t107 = true then (if t106 = true then ((num_digits.f t105).bind fun t108 => (if t108 = true then (num_Parse.j0 k t103 t104 t105 (decide ((t105.size : Int) > 6))) else (num_Parse.j0 k t103 t104 t105 true))) else (num_Parse.j0 k t103 t104 t105 false)) else (num_Parse.j0 k t103 t104 t105 true))) = some (r1, r2) := H
  have A4 := Aside0.mk A40
  clear A40
  have HC5 := Aside0.mk H
  clear H
  go_enter Tryz.func40, Tryz.ntmps40
  go_upto_region 5 with (first | ((with_reducible refine gate_callee (f := 54) rfl ?_); refine goesL_ (some 16) rfl rfl Tryz.func54 (by kernel_rfl) rfl #[.string a0, .string (⟨#[45]⟩ : ByteArray)] rfl (by (try simp only [List.map_toArray, List.map_cons, List.map_nil]); first | done | rfl) ?_; (with_reducible refine (strings_CutPrefix.calls a0 (⟨#[45]⟩ : ByteArray) t102 t103 _ A3.out).mono ?_); rintro e w' ⟨rfl, ⟨nd, rfl⟩⟩; refine ⟨_, rfl, ?_⟩) | ((with_reducible refine gate_callee (f := 41) rfl ?_); refine goesL_ (some 21) rfl rfl Tryz.func41 (by kernel_rfl) rfl #[.string t102, .string (⟨#[46]⟩ : ByteArray)] rfl (by (try simp only [List.map_toArray, List.map_cons, List.map_nil]); first | done | rfl) ?_; (with_reducible refine (strings_Cut.calls t102 (⟨#[46]⟩ : ByteArray) t104 t105 t106 _ A4.out).mono ?_); rintro e w' ⟨rfl, ⟨nd, rfl⟩⟩; refine ⟨_, rfl, ?_⟩))
  (try simp only [Act.put, List.setIfInBounds_toArray, List.set_cons_zero, List.set_cons_succ])
  go_cut [40] (fun v40 wc => ∃ (kq : Nat) (x40_4 : Bool), v40 = .bool x40_4 ∧ Aside0 (num_Parse.j0 kq t103 t104 t105 x40_4 = some (r1, r2)) ∧ Aside0 (kq ≤ k) ∧ Aside0 (Below w.heap.size w wc))
  case first =>
   have H := HC5.out
   clear HC5
   replace H := Option.bind_eq_some_iff.mp H
   obtain ⟨t107, A60, H⟩ := H
   replace H : (if t107 = true then (if t106 = true then ((num_digits.f t105).bind fun t108 => (if t108 = true then (num_Parse.j0 k t103 t104 t105 (decide ((t105.size : Int) > 6))) else (num_Parse.j0 k t103 t104 t105 true))) else (num_Parse.j0 k t103 t104 t105 false)) else (num_Parse.j0 k t103 t104 t105 true)) = some (r1, r2) := H
   have A6 := Aside0.mk A60
   clear A60
   by_cases c7 : t107 = true
   ·subst c7
    have H1 : (if t106 = true then ((num_digits.f t105).bind fun t108 => (if t108 = true then (num_Parse.j0 k t103 t104 t105 (decide ((t105.size : Int) > 6))) else (num_Parse.j0 k t103 t104 t105 true))) else (num_Parse.j0 k t103 t104 t105 false)) = some (r1, r2) := by rw [if_pos rfl] at H; exact H
    clear H
    have H := H1
    clear H1
    by_cases c8 : t106 = true
    ·subst c8
     have H1 : ((num_digits.f t105).bind fun t108 => (if t108 = true then (num_Parse.j0 k t103 t104 t105 (decide ((t105.size : Int) > 6))) else (num_Parse.j0 k t103 t104 t105 true))) = some (r1, r2) := by rw [if_pos rfl] at H; exact H
     clear H
     have H := H1
     clear H1
     replace H := Option.bind_eq_some_iff.mp H
     obtain ⟨t108, A90, H⟩ := H
     replace H : (if t108 = true then (num_Parse.j0 k t103 t104 t105 (decide ((t105.size : Int) > 6))) else (num_Parse.j0 k t103 t104 t105 true)) = some (r1, r2) := H
     have A9 := Aside0.mk A90
     clear A90
     by_cases c10 : t108 = true
     ·subst c10
      have H1 : (num_Parse.j0 k t103 t104 t105 (decide ((t105.size : Int) > 6))) = some (r1, r2) := by rw [if_pos rfl] at H; exact H
      clear H
      have H := H1
      clear H1
      have H' := Aside0.mk H
      clear H
      go_wp2_with (first | ((with_reducible refine gate_callee (f := 55) rfl ?_); refine goesL_ (some 26) rfl rfl Tryz.func55 (by kernel_rfl) rfl #[.string t104] rfl (by (try simp only [List.map_toArray, List.map_cons, List.map_nil]); first | done | rfl) ?_; (with_reducible refine (num_digits.calls t104 true _ A6.out).mono ?_); rintro e w11 ⟨rfl, hb⟩; refine ⟨_, rfl, ?_⟩; have n0_ := Aside0.mk (below_step (by repeat (first | (with_reducible first | exact HB.out | apply bqA | apply bqN | apply bqD) | exact HB.out)) hb); clear HB; have HB := n0_; clear n0_; (try clear hb); (try clear hb2); (try clear hk); (try clear hi)) | (go_at_call 55; (with_reducible refine (num_digits.calls t105 true _ A9.out).mono ?_); rintro e w12 ⟨rfl, hb⟩; have n0_ := Aside0.mk (below_step (by repeat (first | (with_reducible first | exact HB.out | apply bqA | apply bqN | apply bqD) | exact HB.out)) hb); clear HB; have HB := n0_; clear n0_; (try clear hb); (try clear hb2); (try clear hk); (try clear hi)))
      go_meet
      case rel => exact ⟨_, (decide ((t105.size : Int) > 6)), (by first | rfl | (simp; done) | (simp [*]; done)), H', ⟨by first | omega | exact Nat.le_refl _⟩, ⟨by repeat (first | (with_reducible first | exact HB.out | apply bqA | apply bqN | apply bqD) | exact HB.out)⟩⟩
     ·replace c10 := Bool.eq_false_iff.mpr c10
      subst c10
      have H1 : (num_Parse.j0 k t103 t104 t105 true) = some (r1, r2) := by rw [if_neg (show ¬ (false = true) by decide)] at H; exact H
      clear H
      have H := H1
      clear H1
      have H' := Aside0.mk H
      clear H
      go_wp2_with (first | ((with_reducible refine gate_callee (f := 55) rfl ?_); refine goesL_ (some 26) rfl rfl Tryz.func55 (by kernel_rfl) rfl #[.string t104] rfl (by (try simp only [List.map_toArray, List.map_cons, List.map_nil]); first | done | rfl) ?_; (with_reducible refine (num_digits.calls t104 true _ A6.out).mono ?_); rintro e w13 ⟨rfl, hb⟩; refine ⟨_, rfl, ?_⟩; have n0_ := Aside0.mk (below_step (by repeat (first | (with_reducible first | exact HB.out | apply bqA | apply bqN | apply bqD) | exact HB.out)) hb); clear HB; have HB := n0_; clear n0_; (try clear hb); (try clear hb2); (try clear hk); (try clear hi)) | (go_at_call 55; (with_reducible refine (num_digits.calls t105 false _ A9.out).mono ?_); rintro e w14 ⟨rfl, hb⟩; have n0_ := Aside0.mk (below_step (by repeat (first | (with_reducible first | exact HB.out | apply bqA | apply bqN | apply bqD) | exact HB.out)) hb); clear HB; have HB := n0_; clear n0_; (try clear hb); (try clear hb2); (try clear hk); (try clear hi)))
      go_meet
      case rel => exact ⟨_, (true), (by first | rfl | (simp; done) | (simp [*]; done)), H', ⟨by first | omega | exact Nat.le_refl _⟩, ⟨by repeat (first | (with_reducible first | exact HB.out | apply bqA | apply bqN | apply bqD) | exact HB.out)⟩⟩
    ·replace c8 := Bool.eq_false_iff.mpr c8
     subst c8
     have H1 : (num_Parse.j0 k t103 t104 t105 false) = some (r1, r2) := by rw [if_neg (show ¬ (false = true) by decide)] at H; exact H
     clear H
     have H := H1
     clear H1
     have H' := Aside0.mk H
     clear H
     go_wp2_with (first | ((with_reducible refine gate_callee (f := 55) rfl ?_); refine goesL_ (some 26) rfl rfl Tryz.func55 (by kernel_rfl) rfl #[.string t104] rfl (by (try simp only [List.map_toArray, List.map_cons, List.map_nil]); first | done | rfl) ?_; (with_reducible refine (num_digits.calls t104 true _ A6.out).mono ?_); rintro e w15 ⟨rfl, hb⟩; refine ⟨_, rfl, ?_⟩; have n0_ := Aside0.mk (below_step (by repeat (first | (with_reducible first | exact HB.out | apply bqA | apply bqN | apply bqD) | exact HB.out)) hb); clear HB; have HB := n0_; clear n0_; (try clear hb); (try clear hb2); (try clear hk); (try clear hi)))
     go_meet
     case rel => exact ⟨_, (false), (by first | rfl | (simp; done) | (simp [*]; done)), H', ⟨by first | omega | exact Nat.le_refl _⟩, ⟨by repeat (first | (with_reducible first | exact HB.out | apply bqA | apply bqN | apply bqD) | exact HB.out)⟩⟩
   ·replace c7 := Bool.eq_false_iff.mpr c7
    subst c7
    have H1 : (num_Parse.j0 k t103 t104 t105 true) = some (r1, r2) := by rw [if_neg (show ¬ (false = true) by decide)] at H; exact H
    clear H
    have H := H1
    clear H1
    have H' := Aside0.mk H
    clear H
    go_wp2_with (first | ((with_reducible refine gate_callee (f := 55) rfl ?_); refine goesL_ (some 26) rfl rfl Tryz.func55 (by kernel_rfl) rfl #[.string t104] rfl (by (try simp only [List.map_toArray, List.map_cons, List.map_nil]); first | done | rfl) ?_; (with_reducible refine (num_digits.calls t104 false _ A6.out).mono ?_); rintro e w16 ⟨rfl, hb⟩; refine ⟨_, rfl, ?_⟩; have n0_ := Aside0.mk (below_step (by repeat (first | (with_reducible first | exact HB.out | apply bqA | apply bqN | apply bqD) | exact HB.out)) hb); clear HB; have HB := n0_; clear n0_; (try clear hb); (try clear hb2); (try clear hk); (try clear hi)))
    go_meet
    case rel => exact ⟨_, (true), (by first | rfl | (simp; done) | (simp [*]; done)), H', ⟨by first | omega | exact Nat.le_refl _⟩, ⟨by repeat (first | (with_reducible first | exact HB.out | apply bqA | apply bqN | apply bqD) | exact HB.out)⟩⟩
  case rest =>
   clear HC5
   try clear c1
   try clear c2
   try clear c2b0
   try clear c2b1
   try clear p2
   try clear c4
   try clear c5
   try clear p6
   try clear c7
   try clear c8
   try clear c10
   obtain ⟨kq, x40_4, rfl, HA, HJ4, HB⟩ := hcut
   cases kq with
   | zero => exact absurd HA.out (by simp [num_Parse.j0])
   | succ kj4 =>
    have H := HA.out
    clear HA
    simp only [num_Parse.j0] at H
    by_cases c17 : x40_4 = true
    ·subst c17
     have H1 : (some (0, 5)) = some (r1, r2) := by rw [if_pos rfl] at H; exact H
     clear H
     have H := H1
     clear H1
     simp only [Option.some.injEq, Prod.mk.injEq] at H
     obtain ⟨rfl, rfl⟩ := H
     go_wp2
     go_ret2
     exact ⟨by first | rfl | (simp [errW_none, errW_some] <;> rfl) | (simp [*, errW_none, errW_some] <;> rfl), by repeat (first | (with_reducible first | exact HB.out | apply bqA | apply bqN | apply bqD) | exact HB.out)⟩
    ·replace c17 := Bool.eq_false_iff.mpr c17
     subst c17
     have H1 : ((strings_TrimLeft.f t104 (⟨#[48]⟩ : ByteArray)).bind fun t109 => (if (t109.size : Int) > 13 then (some (0, 3)) else (if 1 + t109.size ≤ 9223372036854775807 then (if t105.size + 6 ≤ 9223372036854775807 then (if 0 ≤ 6 then (if 6 ≤ ((t105 ++ (⟨#[48, 48, 48, 48, 48, 48]⟩ : ByteArray)).size : Int) then (if ((⟨#[48]⟩ : ByteArray) ++ t109).size + ((t105 ++ (⟨#[48, 48, 48, 48, 48, 48]⟩ : ByteArray)).extract 0 6).size ≤ 9223372036854775807 then ((strconv_ParseUint.f (((⟨#[48]⟩ : ByteArray) ++ t109) ++ ((t105 ++ (⟨#[48, 48, 48, 48, 48, 48]⟩ : ByteArray)).extract 0 6)) 10 64).bind fun bt110 => (if bt110.1 > 1000000000000000000 then (some (0, 3)) else (if t103 = true then (some (wrap64 (-(wrap64 (bt110.1))), 0)) else (some (wrap64 (bt110.1), 0))))) else (none)) else (none)) else (none)) else (none)) else (none)))) = some (r1, r2) := by rw [if_neg (show ¬ (false = true) by decide)] at H; exact H
     clear H
     have H := H1
     clear H1
     replace H := Option.bind_eq_some_iff.mp H
     obtain ⟨t109, A180, H⟩ := H
     replace H : (if (t109.size : Int) > 13 then (some (0, 3)) else (if 1 + t109.size ≤ 9223372036854775807 then (if t105.size + 6 ≤ 9223372036854775807 then (if 0 ≤ 6 then (if 6 ≤ ((t105 ++ (⟨#[48, 48, 48, 48, 48, 48]⟩ : ByteArray)).size : Int) then (if ((⟨#[48]⟩ : ByteArray) ++ t109).size + ((t105 ++ (⟨#[48, 48, 48, 48, 48, 48]⟩ : ByteArray)).extract 0 6).size ≤ 9223372036854775807 then ((strconv_ParseUint.f (((⟨#[48]⟩ : ByteArray) ++ t109) ++ ((t105 ++ (⟨#[48, 48, 48, 48, 48, 48]⟩ : ByteArray)).extract 0 6)) 10 64).bind fun bt110 => (if bt110.1 > 1000000000000000000 then (some (0, 3)) else (if t103 = true then (some (wrap64 (-(wrap64 (bt110.1))), 0)) else (some (wrap64 (bt110.1), 0))))) else (none)) else (none)) else (none)) else (none)) else (none))) = some (r1, r2) := H
     have A18 := Aside0.mk A180
     clear A180
     by_cases c19 : (t109.size : Int) > 13
     ·rw [if_pos c19] at H
      have c19b0 : decide (13 < (t109.size : Int)) = true := decide_eq_true c19
      have c19b1 : decide (13 < t109.size) = true := decide_eq_true (by omega)
      clear c19
      simp only [Option.some.injEq, Prod.mk.injEq] at H
      obtain ⟨rfl, rfl⟩ := H
      go_wp2_with (first | ((with_reducible refine gate_callee (f := 56) rfl ?_); refine goesL_ (some 42) rfl rfl Tryz.func56 (by kernel_rfl) rfl #[.string t104, .string (⟨#[48]⟩ : ByteArray)] rfl (by (try simp only [List.map_toArray, List.map_cons, List.map_nil]); first | done | rfl) ?_; (with_reducible refine (strings_TrimLeft.calls t104 (⟨#[48]⟩ : ByteArray) t109 _ A18.out).mono ?_); rintro e w20 ⟨rfl, hb⟩; refine ⟨_, rfl, ?_⟩; have n0_ := Aside0.mk (below_step (by repeat (first | (with_reducible first | exact HB.out | apply bqA | apply bqN | apply bqD) | exact HB.out)) hb); clear HB; have HB := n0_; clear n0_; (try clear hb); (try clear hb2); (try clear hk); (try clear hi)))
      go_ret2
      exact ⟨by first | rfl | (simp [errW_none, errW_some] <;> rfl) | (simp [*, errW_none, errW_some] <;> rfl), by repeat (first | (with_reducible first | exact HB.out | apply bqA | apply bqN | apply bqD) | exact HB.out)⟩
     ·rw [if_neg c19] at H
      have c19b0 : decide (13 < (t109.size : Int)) = false := decide_eq_false c19
      have c19b1 : decide (13 < t109.size) = false := decide_eq_false (by omega)
      clear c19
      by_cases c21 : 1 + t109.size ≤ 9223372036854775807
      ·rw [if_pos c21] at H
       have c21b0 := eq_true c21
       have c21b1 : decide (1 + t109.size ≤ 9223372036854775807) = true := decide_eq_true c21
       try have c21b2 : (9223372036854775807 < 1 + t109.size) = False := eq_false (Nat.not_lt.2 c21)
       by_cases c22 : t105.size + 6 ≤ 9223372036854775807
       ·rw [if_pos c22] at H
        have c22b0 := eq_true c22
        have c22b1 : decide (t105.size + 6 ≤ 9223372036854775807) = true := decide_eq_true c22
        try have c22b2 : (9223372036854775807 < t105.size + 6) = False := eq_false (Nat.not_lt.2 c22)
        by_cases c23 : 0 ≤ 6
        ·rw [if_pos c23] at H
         have c23b0 := eq_true c23
         have c23b1 : decide (0 ≤ 6) = true := decide_eq_true c23
         clear c23
         by_cases c24 : 6 ≤ ((t105 ++ (⟨#[48, 48, 48, 48, 48, 48]⟩ : ByteArray)).size : Int)
         ·rw [if_pos c24] at H
          have c24b0 := eq_true c24
          have c24b1 : decide (6 ≤ ((t105 ++ (⟨#[48, 48, 48, 48, 48, 48]⟩ : ByteArray)).size : Int)) = true := decide_eq_true c24
          by_cases c25 : ((⟨#[48]⟩ : ByteArray) ++ t109).size + ((t105 ++ (⟨#[48, 48, 48, 48, 48, 48]⟩ : ByteArray)).extract 0 6).size ≤ 9223372036854775807
          ·rw [if_pos c25] at H
           have c25b0 := eq_true c25
           have c25b1 : decide (((⟨#[48]⟩ : ByteArray) ++ t109).size + ((t105 ++ (⟨#[48, 48, 48, 48, 48, 48]⟩ : ByteArray)).extract 0 6).size ≤ 9223372036854775807) = true := decide_eq_true c25
           try have c25b2 : (9223372036854775807 < ((⟨#[48]⟩ : ByteArray) ++ t109).size + ((t105 ++ (⟨#[48, 48, 48, 48, 48, 48]⟩ : ByteArray)).extract 0 6).size) = False := eq_false (Nat.not_lt.2 c25)
           replace H := Option.bind_eq_some_iff.mp H
           obtain ⟨⟨t110, t111⟩, A260, H⟩ := H
           replace H : (if t110 > 1000000000000000000 then (some (0, 3)) else (if t103 = true then (some (wrap64 (-(wrap64 (t110))), 0)) else (some (wrap64 (t110), 0)))) = some (r1, r2) := H
           have A26 := Aside0.mk A260
           clear A260
           by_cases c27 : t110 > 1000000000000000000
           ·rw [if_pos c27] at H
            have c27b0 : decide (1000000000000000000 < t110) = true := decide_eq_true c27
            clear c27
            simp only [Option.some.injEq, Prod.mk.injEq] at H
            obtain ⟨rfl, rfl⟩ := H
            (try (have c24b1n_ := of_decide_eq_true c24b1; simp only [ByteArray.size_append, Int.natCast_add] at c24b1n_))
            (try (have c24b1m_ := of_decide_eq_true c24b1; rw [ByteArray.size_extract, Nat.min_eq_left (by omega), Nat.sub_zero] at c24b1m_))
            (try (have c24b1j_ := of_decide_eq_true c24b1; simp only [ByteArray.size_append, ByteArray.size_extract, show ∀ z : UInt8, (⟨#[z]⟩ : ByteArray).size = 1 from fun _ => rfl] at c24b1j_; (repeat rw [Nat.min_eq_left (by omega)] at c24b1j_); (try simp only [Nat.sub_zero] at c24b1j_); have c24b1f_ := eq_false (Nat.not_lt.2 c24b1j_)))
            (try (have c24b1k_ := of_decide_eq_true c24b1; simp only [ByteArray.size_append, ByteArray.size_extract, show ∀ z : UInt8, (⟨#[z]⟩ : ByteArray).size = 1 from fun _ => rfl] at c24b1k_; (repeat rw [Nat.min_eq_left (by omega)] at c24b1k_); (try simp only [Nat.sub_zero] at c24b1k_); (try simp at c24b1k_)))
            (try (have c25b1n_ := of_decide_eq_true c25b1; simp only [ByteArray.size_append, Int.natCast_add] at c25b1n_))
            (try (have c25b1m_ := of_decide_eq_true c25b1; rw [ByteArray.size_extract, Nat.min_eq_left (by omega), Nat.sub_zero] at c25b1m_))
            (try (have c25b1j_ := of_decide_eq_true c25b1; simp only [ByteArray.size_append, ByteArray.size_extract, show ∀ z : UInt8, (⟨#[z]⟩ : ByteArray).size = 1 from fun _ => rfl] at c25b1j_; (repeat rw [Nat.min_eq_left (by omega)] at c25b1j_); (try simp only [Nat.sub_zero] at c25b1j_); have c25b1f_ := eq_false (Nat.not_lt.2 c25b1j_)))
            (try (have c25b1k_ := of_decide_eq_true c25b1; simp only [ByteArray.size_append, ByteArray.size_extract, show ∀ z : UInt8, (⟨#[z]⟩ : ByteArray).size = 1 from fun _ => rfl] at c25b1k_; (repeat rw [Nat.min_eq_left (by omega)] at c25b1k_); (try simp only [Nat.sub_zero] at c25b1k_); (try simp at c25b1k_)))
            go_wp2_with (first | ((with_reducible refine gate_callee (f := 56) rfl ?_); refine goesL_ (some 42) rfl rfl Tryz.func56 (by kernel_rfl) rfl #[.string t104, .string (⟨#[48]⟩ : ByteArray)] rfl (by (try simp only [List.map_toArray, List.map_cons, List.map_nil]); first | done | rfl) ?_; (with_reducible refine (strings_TrimLeft.calls t104 (⟨#[48]⟩ : ByteArray) t109 _ A18.out).mono ?_); rintro e w28 ⟨rfl, hb⟩; refine ⟨_, rfl, ?_⟩; have n0_ := Aside0.mk (below_step (by repeat (first | (with_reducible first | exact HB.out | apply bqA | apply bqN | apply bqD) | exact HB.out)) hb); clear HB; have HB := n0_; clear n0_; (try clear hb); (try clear hb2); (try clear hk); (try clear hi)) | ((with_reducible refine gate_callee (f := 57) rfl ?_); refine goesL_ (some 53) rfl rfl Tryz.func57 (by kernel_rfl) rfl #[.string (((⟨#[48]⟩ : ByteArray) ++ t109) ++ ((t105 ++ (⟨#[48, 48, 48, 48, 48, 48]⟩ : ByteArray)).extract 0 6)), .int .i64 10, .int .i64 64] rfl (by (try simp only [List.map_toArray, List.map_cons, List.map_nil]); first | done | rfl | (simp only [List.length_drop, List.length_take]; rfl) | (simp only [ByteArray.size_append, Int.natCast_add]; done) | (simp only [ByteArray.size_append, Int.natCast_add]; rfl) | (simp only [Array.mk.injEq, List.cons.injEq, Value.int.injEq, true_and, and_true]; (try simp only [mx, mn, wrap64] at *); omega)) ?_; (with_reducible refine (strconv_ParseUint.calls (((⟨#[48]⟩ : ByteArray) ++ t109) ++ ((t105 ++ (⟨#[48, 48, 48, 48, 48, 48]⟩ : ByteArray)).extract 0 6)) 10 64 t110 t111 _ A26.out).mono ?_); rintro e w29 ⟨rfl, hb⟩; refine ⟨_, rfl, ?_⟩; have n0_ := Aside0.mk (below_step (by repeat (first | (with_reducible first | exact HB.out | apply bqA | apply bqN | apply bqD) | exact HB.out)) hb); clear HB; have HB := n0_; clear n0_; (try clear hb); (try clear hb2); (try clear hk); (try clear hi); (try simp only [errW_none, errW_some])))
            go_ret2
            exact ⟨by first | rfl | (simp [errW_none, errW_some] <;> rfl) | (simp [*, errW_none, errW_some] <;> rfl), by repeat (first | (with_reducible first | exact HB.out | apply bqA | apply bqN | apply bqD) | exact HB.out)⟩
           ·rw [if_neg c27] at H
            have c27b0 : decide (1000000000000000000 < t110) = false := decide_eq_false c27
            clear c27
            by_cases c30 : t103 = true
            ·subst c30
             have H1 : (some (wrap64 (-(wrap64 (t110))), 0)) = some (r1, r2) := by rw [if_pos rfl] at H; exact H
             clear H
             have H := H1
             clear H1
             simp only [Option.some.injEq, Prod.mk.injEq] at H
             obtain ⟨rfl, rfl⟩ := H
             (try (have c24b1n_ := of_decide_eq_true c24b1; simp only [ByteArray.size_append, Int.natCast_add] at c24b1n_))
             (try (have c24b1m_ := of_decide_eq_true c24b1; rw [ByteArray.size_extract, Nat.min_eq_left (by omega), Nat.sub_zero] at c24b1m_))
             (try (have c24b1j_ := of_decide_eq_true c24b1; simp only [ByteArray.size_append, ByteArray.size_extract, show ∀ z : UInt8, (⟨#[z]⟩ : ByteArray).size = 1 from fun _ => rfl] at c24b1j_; (repeat rw [Nat.min_eq_left (by omega)] at c24b1j_); (try simp only [Nat.sub_zero] at c24b1j_); have c24b1f_ := eq_false (Nat.not_lt.2 c24b1j_)))
             (try (have c24b1k_ := of_decide_eq_true c24b1; simp only [ByteArray.size_append, ByteArray.size_extract, show ∀ z : UInt8, (⟨#[z]⟩ : ByteArray).size = 1 from fun _ => rfl] at c24b1k_; (repeat rw [Nat.min_eq_left (by omega)] at c24b1k_); (try simp only [Nat.sub_zero] at c24b1k_); (try simp at c24b1k_)))
             (try (have c25b1n_ := of_decide_eq_true c25b1; simp only [ByteArray.size_append, Int.natCast_add] at c25b1n_))
             (try (have c25b1m_ := of_decide_eq_true c25b1; rw [ByteArray.size_extract, Nat.min_eq_left (by omega), Nat.sub_zero] at c25b1m_))
             (try (have c25b1j_ := of_decide_eq_true c25b1; simp only [ByteArray.size_append, ByteArray.size_extract, show ∀ z : UInt8, (⟨#[z]⟩ : ByteArray).size = 1 from fun _ => rfl] at c25b1j_; (repeat rw [Nat.min_eq_left (by omega)] at c25b1j_); (try simp only [Nat.sub_zero] at c25b1j_); have c25b1f_ := eq_false (Nat.not_lt.2 c25b1j_)))
             (try (have c25b1k_ := of_decide_eq_true c25b1; simp only [ByteArray.size_append, ByteArray.size_extract, show ∀ z : UInt8, (⟨#[z]⟩ : ByteArray).size = 1 from fun _ => rfl] at c25b1k_; (repeat rw [Nat.min_eq_left (by omega)] at c25b1k_); (try simp only [Nat.sub_zero] at c25b1k_); (try simp at c25b1k_)))
             go_wp2_with (first | ((with_reducible refine gate_callee (f := 56) rfl ?_); refine goesL_ (some 42) rfl rfl Tryz.func56 (by kernel_rfl) rfl #[.string t104, .string (⟨#[48]⟩ : ByteArray)] rfl (by (try simp only [List.map_toArray, List.map_cons, List.map_nil]); first | done | rfl) ?_; (with_reducible refine (strings_TrimLeft.calls t104 (⟨#[48]⟩ : ByteArray) t109 _ A18.out).mono ?_); rintro e w31 ⟨rfl, hb⟩; refine ⟨_, rfl, ?_⟩; have n0_ := Aside0.mk (below_step (by repeat (first | (with_reducible first | exact HB.out | apply bqA | apply bqN | apply bqD) | exact HB.out)) hb); clear HB; have HB := n0_; clear n0_; (try clear hb); (try clear hb2); (try clear hk); (try clear hi)) | ((with_reducible refine gate_callee (f := 57) rfl ?_); refine goesL_ (some 53) rfl rfl Tryz.func57 (by kernel_rfl) rfl #[.string (((⟨#[48]⟩ : ByteArray) ++ t109) ++ ((t105 ++ (⟨#[48, 48, 48, 48, 48, 48]⟩ : ByteArray)).extract 0 6)), .int .i64 10, .int .i64 64] rfl (by (try simp only [List.map_toArray, List.map_cons, List.map_nil]); first | done | rfl | (simp only [List.length_drop, List.length_take]; rfl) | (simp only [ByteArray.size_append, Int.natCast_add]; done) | (simp only [ByteArray.size_append, Int.natCast_add]; rfl) | (simp only [Array.mk.injEq, List.cons.injEq, Value.int.injEq, true_and, and_true]; (try simp only [mx, mn, wrap64] at *); omega)) ?_; (with_reducible refine (strconv_ParseUint.calls (((⟨#[48]⟩ : ByteArray) ++ t109) ++ ((t105 ++ (⟨#[48, 48, 48, 48, 48, 48]⟩ : ByteArray)).extract 0 6)) 10 64 t110 t111 _ A26.out).mono ?_); rintro e w32 ⟨rfl, hb⟩; refine ⟨_, rfl, ?_⟩; have n0_ := Aside0.mk (below_step (by repeat (first | (with_reducible first | exact HB.out | apply bqA | apply bqN | apply bqD) | exact HB.out)) hb); clear HB; have HB := n0_; clear n0_; (try clear hb); (try clear hb2); (try clear hk); (try clear hi); (try simp only [errW_none, errW_some])))
             go_ret2
             exact ⟨by first | rfl | (simp [errW_none, errW_some] <;> rfl) | (simp [*, errW_none, errW_some] <;> rfl), by repeat (first | (with_reducible first | exact HB.out | apply bqA | apply bqN | apply bqD) | exact HB.out)⟩
            ·replace c30 := Bool.eq_false_iff.mpr c30
             subst c30
             have H1 : (some (wrap64 (t110), 0)) = some (r1, r2) := by rw [if_neg (show ¬ (false = true) by decide)] at H; exact H
             clear H
             have H := H1
             clear H1
             simp only [Option.some.injEq, Prod.mk.injEq] at H
             obtain ⟨rfl, rfl⟩ := H
             (try (have c24b1n_ := of_decide_eq_true c24b1; simp only [ByteArray.size_append, Int.natCast_add] at c24b1n_))
             (try (have c24b1m_ := of_decide_eq_true c24b1; rw [ByteArray.size_extract, Nat.min_eq_left (by omega), Nat.sub_zero] at c24b1m_))
             (try (have c24b1j_ := of_decide_eq_true c24b1; simp only [ByteArray.size_append, ByteArray.size_extract, show ∀ z : UInt8, (⟨#[z]⟩ : ByteArray).size = 1 from fun _ => rfl] at c24b1j_; (repeat rw [Nat.min_eq_left (by omega)] at c24b1j_); (try simp only [Nat.sub_zero] at c24b1j_); have c24b1f_ := eq_false (Nat.not_lt.2 c24b1j_)))
             (try (have c24b1k_ := of_decide_eq_true c24b1; simp only [ByteArray.size_append, ByteArray.size_extract, show ∀ z : UInt8, (⟨#[z]⟩ : ByteArray).size = 1 from fun _ => rfl] at c24b1k_; (repeat rw [Nat.min_eq_left (by omega)] at c24b1k_); (try simp only [Nat.sub_zero] at c24b1k_); (try simp at c24b1k_)))
             (try (have c25b1n_ := of_decide_eq_true c25b1; simp only [ByteArray.size_append, Int.natCast_add] at c25b1n_))
             (try (have c25b1m_ := of_decide_eq_true c25b1; rw [ByteArray.size_extract, Nat.min_eq_left (by omega), Nat.sub_zero] at c25b1m_))
             (try (have c25b1j_ := of_decide_eq_true c25b1; simp only [ByteArray.size_append, ByteArray.size_extract, show ∀ z : UInt8, (⟨#[z]⟩ : ByteArray).size = 1 from fun _ => rfl] at c25b1j_; (repeat rw [Nat.min_eq_left (by omega)] at c25b1j_); (try simp only [Nat.sub_zero] at c25b1j_); have c25b1f_ := eq_false (Nat.not_lt.2 c25b1j_)))
             (try (have c25b1k_ := of_decide_eq_true c25b1; simp only [ByteArray.size_append, ByteArray.size_extract, show ∀ z : UInt8, (⟨#[z]⟩ : ByteArray).size = 1 from fun _ => rfl] at c25b1k_; (repeat rw [Nat.min_eq_left (by omega)] at c25b1k_); (try simp only [Nat.sub_zero] at c25b1k_); (try simp at c25b1k_)))
             go_wp2_with (first | ((with_reducible refine gate_callee (f := 56) rfl ?_); refine goesL_ (some 42) rfl rfl Tryz.func56 (by kernel_rfl) rfl #[.string t104, .string (⟨#[48]⟩ : ByteArray)] rfl (by (try simp only [List.map_toArray, List.map_cons, List.map_nil]); first | done | rfl) ?_; (with_reducible refine (strings_TrimLeft.calls t104 (⟨#[48]⟩ : ByteArray) t109 _ A18.out).mono ?_); rintro e w33 ⟨rfl, hb⟩; refine ⟨_, rfl, ?_⟩; have n0_ := Aside0.mk (below_step (by repeat (first | (with_reducible first | exact HB.out | apply bqA | apply bqN | apply bqD) | exact HB.out)) hb); clear HB; have HB := n0_; clear n0_; (try clear hb); (try clear hb2); (try clear hk); (try clear hi)) | ((with_reducible refine gate_callee (f := 57) rfl ?_); refine goesL_ (some 53) rfl rfl Tryz.func57 (by kernel_rfl) rfl #[.string (((⟨#[48]⟩ : ByteArray) ++ t109) ++ ((t105 ++ (⟨#[48, 48, 48, 48, 48, 48]⟩ : ByteArray)).extract 0 6)), .int .i64 10, .int .i64 64] rfl (by (try simp only [List.map_toArray, List.map_cons, List.map_nil]); first | done | rfl | (simp only [List.length_drop, List.length_take]; rfl) | (simp only [ByteArray.size_append, Int.natCast_add]; done) | (simp only [ByteArray.size_append, Int.natCast_add]; rfl) | (simp only [Array.mk.injEq, List.cons.injEq, Value.int.injEq, true_and, and_true]; (try simp only [mx, mn, wrap64] at *); omega)) ?_; (with_reducible refine (strconv_ParseUint.calls (((⟨#[48]⟩ : ByteArray) ++ t109) ++ ((t105 ++ (⟨#[48, 48, 48, 48, 48, 48]⟩ : ByteArray)).extract 0 6)) 10 64 t110 t111 _ A26.out).mono ?_); rintro e w34 ⟨rfl, hb⟩; refine ⟨_, rfl, ?_⟩; have n0_ := Aside0.mk (below_step (by repeat (first | (with_reducible first | exact HB.out | apply bqA | apply bqN | apply bqD) | exact HB.out)) hb); clear HB; have HB := n0_; clear n0_; (try clear hb); (try clear hb2); (try clear hk); (try clear hi); (try simp only [errW_none, errW_some])))
             go_ret2
             exact ⟨by first | rfl | (simp [errW_none, errW_some] <;> rfl) | (simp [*, errW_none, errW_some] <;> rfl), by repeat (first | (with_reducible first | exact HB.out | apply bqA | apply bqN | apply bqD) | exact HB.out)⟩
          ·rw [if_neg c25] at H
           exact absurd H (by simp)
         ·rw [if_neg c24] at H
          exact absurd H (by simp)
        ·rw [if_neg c23] at H
         exact absurd H (by simp)
       ·rw [if_neg c22] at H
        exact absurd H (by simp)
      ·rw [if_neg c21] at H
       exact absurd H (by simp)
def num_Fits.f (a0 : Int) : Option (Bool) := if a0 ≥ (-1000000000000000000) then (some (decide (a0 ≤ 1000000000000000000))) else (some false)
set_option maxHeartbeats 8000000 in
set_option maxRecDepth 100000 in
theorem num_Fits.calls (a0 : Int) (r : Bool) (w : World) (h : num_Fits.f a0 = some r) :
  Calls Tryz.prog 82 #[.int .i64 a0] w fun e w' => e = .returned (.bool r) ∧ Drawn0 w w' := by
 have H : (if a0 ≥ (-1000000000000000000) then (some (decide (a0 ≤ 1000000000000000000))) else (some false)) = some r := h
 clear h
 by_cases c2 : a0 ≥ (-1000000000000000000)
 ·rw [if_pos c2] at H
  have c2b0 : decide ((-1000000000000000000) ≤ a0) = true := decide_eq_true c2
  clear c2
  obtain rfl := Option.some.inj H
  go_enter Tryz.func82, Tryz.ntmps82
  go_wp2
  go_ret
  exact ⟨by first | rfl | (simp; done) | (simp [*]; done), by repeat (first | exact Drawn0.refl _ | apply Drawn0.step)⟩
 ·rw [if_neg c2] at H
  have c2b0 : decide ((-1000000000000000000) ≤ a0) = false := decide_eq_false c2
  clear c2
  obtain rfl := Option.some.inj H
  go_enter Tryz.func82, Tryz.ntmps82
  go_wp2
  go_ret
  exact ⟨by first | rfl | (simp; done) | (simp [*]; done), by repeat (first | exact Drawn0.refl _ | apply Drawn0.step)⟩
end Go.Proofs.YtmppnobldhhpjaaGreatDoor.Pr
end
