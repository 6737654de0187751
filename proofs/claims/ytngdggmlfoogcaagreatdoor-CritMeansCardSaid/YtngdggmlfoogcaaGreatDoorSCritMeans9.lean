/-
  What the law CritMeans leans on, out of the texts that were printed and written for this seat: only what its proof mentions (gathered by a program of the author's).
-/
import Derived.Test.YtngdggmlfoogcaaGreatDoorSCritMeans4
import Derived.Test.YtngdggmlfoogcaaGreatDoorSCritMeans7
import Derived.Test.YtngdggmlfoogcaaGreatDoorSCritMeans8
import Derived.BigQuiet
import Derived.Deep.QuietTactic
import Derived.Lib.AppendIntMem
import Derived.Lib.Bytealg
import Derived.Lib.SmallJoins
import Derived.Shelf.Strings.SlTrimAscii
section
namespace Go.Proofs.YtngdggmlfoogcaaGreatDoor.Pr
open Go.RowKit Go.Proofs.YtngdggmlfoogcaaGreatDoorW.PrintWords Go.Proofs.YtngdggmlfoogcaaGreatDoorW.PrintLast Go.Proofs.YtngdggmlfoogcaaGreatDoorW.PrintMore
def strconv_ParseUint.f (a0 : ByteArray) (a1 : Int) (a2 : Int) : Option (Int × Option Int) :=
  if a1 = 10 ∧ a2 = 64 ∧ a0.size ≤ 9223372036854775806 then (match Lib.parseUintB 64 a0.data.toList with | .ok u => some ((u : Int), none) | _ => none) else none
theorem strconv_ParseUint.calls (a0 : ByteArray) (a1 : Int) (a2 : Int) (r1 : Int) (r2 : Option Int) (w : World) (h : strconv_ParseUint.f a0 a1 a2 = some (r1, r2)) :
    Calls Tryz.prog 66 #[.string a0, .int .i64 a1, .int .i64 a2] w fun e w' => e = .returned (.tuple #[.int .u64 r1, errW r2]) ∧ Below w.heap.size w w' := by
  unfold strconv_ParseUint.f at h
  split at h
  · rename_i c
    obtain ⟨rfl, rfl, c3⟩ := c
    cases hu : Lib.parseUintB 64 a0.data.toList with
    | ok u =>
      rw [hu] at h
      obtain ⟨rfl, rfl⟩ := Prod.mk.inj (Option.some.inj h)
      refine (Tryz.strconv_ParseUint_10_at64_ok a0 c3 u hu w).mono fun e w' ⟨h1, h2⟩ => ⟨h1, ?_⟩
      rcases h2 with rfl | rfl
      · exact Below.refl _ _
      · exact bytes_below (Below.refl _ _) (Nat.le_refl _) _ _
    | _ => rw [hu] at h; exact absurd h (by simp)
  · exact absurd h (by simp)
def strings_Compare.f (a0 : ByteArray) (a1 : ByteArray) : Option Int := some (Lib.compareBytes a0.data.toList a1.data.toList)
theorem strings_Compare.calls (a0 : ByteArray) (a1 : ByteArray) (r : Int) (w : World) (h : strings_Compare.f a0 a1 = some r) :
    Calls Tryz.prog 53 #[.string a0, .string a1] w fun e w' => e = .returned (.int .i64 r) ∧ Drawn0 w w' := by
  obtain rfl := Option.some.inj h
  refine (Tryz.strings_Compare a0 a1 w).mono ?_
  rintro e w' ⟨rfl, rfl⟩
  exact ⟨rfl, Drawn0.refl _⟩
def strings_Cut.f (a0 : ByteArray) (a1 : ByteArray) : Option (ByteArray × ByteArray × Bool) :=
  match a1.data.toList with
  | [c] => if a0.size ≤ 9223372036854775806 then (if Lib.indexByte a0.data.toList c = -1 then some (a0, (⟨#[]⟩ : ByteArray), false)
      else if 0 ≤ Lib.indexByte a0.data.toList c ∧ Lib.indexByte a0.data.toList c < a0.size then some (a0.extract 0 (Lib.indexByte a0.data.toList c).toNat, a0.extract ((Lib.indexByte a0.data.toList c).toNat + 1) a0.size, true) else none) else none
  | _ => none
theorem strings_Cut_lite (a0 : ByteArray) (c : UInt8) (r1 r2 : ByteArray) (r3 : Bool) (w : World) (h : strings_Cut.f a0 ⟨#[c]⟩ = some (r1, r2, r3)) :
    Calls Tryz.prog 75 #[.string a0, .string ⟨#[c]⟩] w fun e w' => e = .returned (.tuple #[.string r1, .string r2, .bool r3]) ∧ Drawn0 w w' := by
  unfold strings_Cut.f at h
  simp only at h
  split at h
  · rename_i hs
    split at h
    · rename_i hi
      simp only [Option.some.injEq, Prod.mk.injEq] at h
      obtain ⟨rfl, rfl, rfl⟩ := h
      have HI := Aside0.mk hi
      clear hi
      go_enter Tryz.func75, Tryz.ntmps75
      go_wp2_with (go_at_call 87; refine (Tryz.stringslite_Index_one a0 c _).mono ?_; rw [HI.out]; rintro e w' ⟨rfl, rfl⟩)
      go_ret3
      exact ⟨rfl, Drawn0.refl _⟩
    · split at h
      · rename_i hi
        simp only [Option.some.injEq, Prod.mk.injEq] at h
        obtain ⟨rfl, rfl, rfl⟩ := h
        obtain ⟨i, hi3⟩ : ∃ i, i = Lib.indexByte a0.data.toList c := ⟨_, rfl⟩
        rw [← hi3] at hi ⊢
        obtain ⟨h0, h1⟩ := hi
        have HI := Aside0.mk hi3
        clear hi3
        have h2 : i + 1 ≤ (a0.size : Int) := by omega
        have h3 : i ≤ (a0.size : Int) := by omega
        have h4 : 0 ≤ i + 1 := by omega
        have ht : (i + 1).toNat = i.toNat + 1 := by omega
        have HT := Aside0.mk ht
        clear ht
        go_enter Tryz.func75, Tryz.ntmps75
        go_wp2_with (go_at_call 87; refine (Tryz.stringslite_Index_one a0 c _).mono ?_; rw [← HI.out]; rintro e w' ⟨rfl, rfl⟩)
        go_quiet (fail)
        go_wp2
        go_ret3
        rw [HT.out]
        exact ⟨rfl, ⟨_, rfl⟩⟩
      · exact absurd h (by simp)
  · exact absurd h (by simp)
theorem strings_Cut.calls (a0 : ByteArray) (a1 : ByteArray) (r1 : ByteArray) (r2 : ByteArray) (r3 : Bool) (w : World) (h : strings_Cut.f a0 a1 = some (r1, r2, r3)) :
    Calls Tryz.prog 63 #[.string a0, .string a1] w fun e w' => e = .returned (.tuple #[.string r1, .string r2, .bool r3]) ∧ Drawn0 w w' := by
  obtain ⟨c, rfl⟩ : ∃ c, a1 = ⟨#[c]⟩ := by
    obtain ⟨⟨l⟩⟩ := a1
    unfold strings_Cut.f at h
    match l, h with
    | [c], _ => exact ⟨c, rfl⟩
  go_enter Tryz.func63, Tryz.ntmps63
  go_wp2_with (go_at_call 75; refine (strings_Cut_lite a0 c r1 r2 r3 _ h).mono ?_; rintro e w' ⟨rfl, hd⟩)
  go_ret3
  exact ⟨rfl, hd⟩
def strings_CutPrefix.f (a0 : ByteArray) (a1 : ByteArray) : Option (ByteArray × Bool) :=
  some (⟨(Lib.trimPrefix a0.data.toList a1.data.toList).toArray⟩, Lib.hasPrefix a0.data.toList a1.data.toList)
theorem strings_CutPrefix.calls (a0 : ByteArray) (a1 : ByteArray) (r1 : ByteArray) (r2 : Bool) (w : World) (h : strings_CutPrefix.f a0 a1 = some (r1, r2)) :
    Calls Tryz.prog 62 #[.string a0, .string a1] w fun e w' => e = .returned (.tuple #[.string r1, .bool r2]) ∧ Drawn0 w w' := by
  obtain ⟨rfl, rfl⟩ := Prod.mk.inj (Option.some.inj h)
  exact (Tryz.strings_CutPrefix a0 a1 w).mono fun e w' ⟨h1, h2⟩ => ⟨h1, h2 ▸ Drawn0.refl _⟩
def strings_HasPrefix.f (a0 : ByteArray) (a1 : ByteArray) : Option (Bool) := some (Lib.hasPrefix a0.data.toList a1.data.toList)
theorem strings_HasPrefix.calls (a0 : ByteArray) (a1 : ByteArray) (r : Bool) (w : World) (h : strings_HasPrefix.f a0 a1 = some r) :
    Calls Tryz.prog 39 #[.string a0, .string a1] w fun e w' => e = .returned (.bool r) ∧ Drawn0 w w' := by
  obtain rfl := Option.some.inj h
  exact (Tryz.strings_HasPrefix a0 a1 w).mono fun e w' ⟨h1, h2⟩ => ⟨h1, h2 ▸ Drawn0.refl _⟩
def strings_Trim.f (a0 : ByteArray) (a1 : ByteArray) : Option (ByteArray) :=
  if a1.size < 4294967281 ∧ a1.data.toList.all (fun b => decide (b.toNat < 128)) = true ∧ a0.size ≤ 9223372036854775807 then some ⟨(Lib.trimS a0.data.toList a1.data.toList).toArray⟩ else none
theorem strings_Trim.calls (a0 : ByteArray) (a1 : ByteArray) (r : ByteArray) (w : World) (h : strings_Trim.f a0 a1 = some r) :
    Calls Tryz.prog 76 #[.string a0, .string a1] w fun e w' => e = .returned (.string r) ∧ Below w.heap.size w w' := by
  unfold strings_Trim.f at h
  split at h
  · rename_i c
    obtain rfl := Option.some.inj h
    exact Any.strings_Trim_laid Tryz.lays160 (by kernel_rfl) a0 a1 w c.2.2 c.1 (ascii_of_all c.2.1)
  · exact absurd h (by simp)
def strings_TrimLeft.f (a0 : ByteArray) (a1 : ByteArray) : Option (ByteArray) :=
  if a1.size < 4294967281 ∧ a1.data.toList.all (fun b => decide (b.toNat < 128)) = true then some ⟨(Lib.trimLeftS a0.data.toList a1.data.toList).toArray⟩ else none
theorem strings_TrimLeft.calls (a0 : ByteArray) (a1 : ByteArray) (r : ByteArray) (w : World) (h : strings_TrimLeft.f a0 a1 = some r) :
    Calls Tryz.prog 65 #[.string a0, .string a1] w fun e w' => e = .returned (.string r) ∧ Below w.heap.size w w' := by
  unfold strings_TrimLeft.f at h
  split at h
  · rename_i c
    obtain rfl := Option.some.inj h
    exact Any.strings_TrimLeft_laid Tryz.lays161 (by kernel_rfl) a0 a1 w c.1 (ascii_of_all c.2)
  · exact absurd h (by simp)
end Go.Proofs.YtngdggmlfoogcaaGreatDoor.Pr
end
