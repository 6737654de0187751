/-
  Texts as lists of bytes: joining, cutting, decimal digits. No program is in sight.
-/
import Derived.Lib.ItoaNum
import Derived.Lib.Strings
import Derived.Laws.BytesArg
import Derived.Lib.Repeat
namespace Go.Proofs.YtdhieabmpkfdhaaDoor.Pr
set_option linter.unusedVariables false
/-- a text out of its bytes. -/
def bl (l : List UInt8) : ByteArray := ⟨l.toArray⟩
theorem bl_def (l : List UInt8) : (⟨l.toArray⟩ : ByteArray) = bl l := rfl
theorem bl_append (a b : List UInt8) : bl a ++ bl b = bl (a ++ b) := by apply ByteArray.ext; simp [bl]
theorem bl_size (a : List UInt8) : (bl a).size = a.length := by simp [bl, ByteArray.size]
theorem bl_extract (a : List UInt8) (i j : Nat) : (bl a).extract i j = bl ((a.take j).drop i) := by
  apply ByteArray.ext; simp [bl, ByteArray.data_extract, List.drop_take]
theorem bl_toList (a : List UInt8) : (bl a).toList = a := by rw [Lib.toList_data]; simp [bl]
theorem bl_data (a : List UInt8) : (bl a).data.toList = a := by simp [bl]
theorem bl_of (s : ByteArray) : bl s.data.toList = s := by apply ByteArray.ext; simp [bl]
theorem bl_inj {a b : List UInt8} (h : bl a = bl b) : a = b := by have := congrArg ByteArray.toList h; rwa [bl_toList, bl_toList] at this
/-! ### decimal digits, so that they can be reckoned -/
def decF : Nat → Nat → List UInt8
  | 0, _ => []
  | f + 1, u => if u < 10 then [UInt8.ofNat (48 + u)] else decF f (u / 10) ++ [UInt8.ofNat (48 + u % 10)]
theorem decDigits_eq : ∀ (f u : Nat), u < 10 ^ (f + 1) → Lib.decDigits u = decF (f + 1) u
  | 0, u, h => by
    rw [Lib.decDigits, decF]
    rw [dif_pos (by omega), if_pos (by omega)]
  | f + 1, u, h => by
    rw [Lib.decDigits, decF]
    by_cases c : u < 10
    · rw [dif_pos c, if_pos c]
    · rw [dif_neg c, if_neg c, decDigits_eq f (u / 10) (by rw [Nat.pow_succ] at h; omega)]
theorem itoa_eq (n : Int) (h : n.natAbs < 10 ^ 20) : Lib.itoa n = if n < 0 then 45 :: decF 20 n.natAbs else decF 20 n.toNat := by
  unfold Lib.itoa
  rw [decDigits_eq 19 _ h, decDigits_eq 19 n.toNat (by omega)]
theorem decDigits_small (u : Nat) (h : u < 10) : Lib.decDigits u = [UInt8.ofNat (48 + u)] := by rw [Lib.decDigits, dif_pos h]
theorem decDigits_big (u : Nat) (h : ¬ u < 10) : Lib.decDigits u = Lib.decDigits (u / 10) ++ [UInt8.ofNat (48 + u % 10)] := by rw [Lib.decDigits, dif_neg h]
theorem decDigits_length (f : Nat) : ∀ u, u < 10 ^ (f + 1) → 1 ≤ (Lib.decDigits u).length ∧ (Lib.decDigits u).length ≤ f + 1 := by
  induction f with
  | zero => intro u h; rw [decDigits_small u (by omega)]; simp
  | succ f ih =>
    intro u h
    by_cases c : u < 10
    · rw [decDigits_small u c]; simp
    · rw [decDigits_big u c]
      have := ih (u / 10) (by rw [Nat.pow_succ] at h; omega)
      simp
      omega
theorem repeat_one (b : UInt8) (n : Nat) : Lib.repeatL [b] n = List.replicate n b := by
  induction n with
  | zero => rfl
  | succ n ih => rw [Lib.repeatL, ih]; rfl
end Go.Proofs.YtdhieabmpkfdhaaDoor.Pr
