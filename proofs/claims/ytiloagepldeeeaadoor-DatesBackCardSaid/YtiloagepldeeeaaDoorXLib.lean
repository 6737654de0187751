/-
  The library's functions that the laws' code calls, told as plain functions, each with its contract (out of the shelf's).
-/
import Derived.Test.YtiloagepldeeeaaDoorPr0
import Derived.Test.YtiloagepldeeeaaDoorShelf
import Derived.Test.YtiloagepldeeeaaDoorLaid
import Derived.Lib.AppendIntMem
import Derived.Shelf.Strings.SlTrimAscii
namespace Go.Proofs.YtiloagepldeeeaaDoor.Pr
open Go.RowKit Go.Proofs.YtiloagepldeeeaaDoorW.PrintWords Go.Proofs.YtiloagepldeeeaaDoorW.PrintLast Go.Proofs.YtiloagepldeeeaaDoorW.PrintMore
/-- strconv.Atoi, at a numeral of at most 18 bytes. -/
def strconv_Atoi.f (a0 : ByteArray) : Option (Int × Option Int) :=
  if a0.size ≤ 18 then (match Lib.atoi a0.data.toList with | some v => some (v, none) | none => none) else none
theorem strconv_Atoi.calls (a0 : ByteArray) (r1 : Int) (r2 : Option Int) (w : World) (h : strconv_Atoi.f a0 = some (r1, r2)) :
    Calls Tryd.prog 39 #[.string a0] w fun e w' => e = .returned (.tuple #[.int .i64 r1, errW r2]) ∧ Below w.heap.size w w' := by
  unfold strconv_Atoi.f at h
  split at h
  · rename_i c
    cases hu : Lib.atoi a0.data.toList with
    | some v =>
      rw [hu] at h
      obtain ⟨rfl, rfl⟩ := Prod.mk.inj (Option.some.inj h)
      exact (Tryd.strconv_Atoi a0 v c hu w).mono fun e w' ⟨h1, h2⟩ => ⟨h1, by obtain ⟨t, rfl⟩ := h2; exact bytes_below (Below.refl _ _) (Nat.le_refl _) _ _⟩
    | none => rw [hu] at h; exact absurd h (by simp)
  · exact absurd h (by simp)
/-- strconv.Itoa. -/
def strconv_Itoa.f (a0 : Int) : Option (ByteArray) :=
  if -9223372036854775808 ≤ a0 ∧ a0 ≤ 9223372036854775807 then some ⟨(Lib.itoa a0).toArray⟩ else none
theorem strconv_Itoa.calls (a0 : Int) (r : ByteArray) (w : World) (h : strconv_Itoa.f a0 = some r) (hL0 : Aside0 (LaidW w)) :
    Calls Tryd.prog 40 #[.int .i64 a0] w fun e w' => e = .returned (.string r) ∧ Below w.heap.size w w' := by
  unfold strconv_Itoa.f at h
  split at h
  · rename_i c
    obtain rfl := Option.some.inj h
    exact (Tryd.strconv_Itoa a0 c.1 c.2 w hL0.out.pow10).mono fun e w' ⟨h1, k, os, h2⟩ => ⟨h1, h2 ▸ Lib.below_grow _ w (Nat.le_refl _) k os⟩
  · exact absurd h (by simp)
/-- strings.Repeat. -/
def strings_Repeat.f (a0 : ByteArray) (a1 : Int) : Option (ByteArray) :=
  if 0 ≤ a1 ∧ a1 ≤ 9223372036854775807 ∧ a0.size * a1.toNat ≤ 140737488355328 then some ⟨(Lib.repeatL a0.data.toList a1.toNat).toArray⟩ else none
theorem strings_Repeat.calls (a0 : ByteArray) (a1 : Int) (r : ByteArray) (w : World) (h : strings_Repeat.f a0 a1 = some r) :
    Calls Tryd.prog 41 #[.string a0, .int .i64 a1] w fun e w' => e = .returned (.string r) ∧ Below w.heap.size w w' := by
  unfold strings_Repeat.f at h
  split at h
  · rename_i c
    obtain rfl := Option.some.inj h
    obtain ⟨c0, c1, c2⟩ := c
    obtain ⟨n, rfl⟩ := Int.eq_ofNat_of_zero_le c0
    exact Tryd.strings_Repeat a0 n w (by omega) (by simpa using c2)
  · exact absurd h (by simp)
/-- strings.Trim at an ASCII cutset. -/
def strings_Trim.f (a0 : ByteArray) (a1 : ByteArray) : Option (ByteArray) :=
  if a1.size < 4294967281 ∧ a1.data.toList.all (fun b => decide (b.toNat < 128)) = true ∧ a0.size ≤ 9223372036854775807 then some ⟨(Lib.trimS a0.data.toList a1.data.toList).toArray⟩ else none
theorem strings_Trim.calls (a0 : ByteArray) (a1 : ByteArray) (r : ByteArray) (w : World) (h : strings_Trim.f a0 a1 = some r) :
    Calls Tryd.prog 38 #[.string a0, .string a1] w fun e w' => e = .returned (.string r) ∧ Below w.heap.size w w' := by
  unfold strings_Trim.f at h
  split at h
  · rename_i c
    obtain rfl := Option.some.inj h
    exact Any.strings_Trim_laid Tryd.lays160 (by kernel_rfl) a0 a1 w c.2.2 c.1 (ascii_of_all c.2.1)
  · exact absurd h (by simp)
end Go.Proofs.YtiloagepldeeeaaDoor.Pr
