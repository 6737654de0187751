/-
  Lemmas for the law FAllFTable.
-/
import Derived.Test.YtopdjokncbpghaaGreatDoorSFAllFTable5
import Derived.Below
import Derived.Laws.IdiomStrings
import Derived.Laws.NewBlocks
import Derived.Laws.RangeAny
import Derived.LoopTactic
import Derived.WalkKit
set_option maxHeartbeats 8000000
set_option maxRecDepth 100000
set_option linter.unusedVariables false
set_option linter.unusedSimpArgs false
section
namespace Go.Proofs.YtopdjokncbpghaaGreatDoor.Pr
open Go.RowKit Go.Proofs.YtopdjokncbpghaaGreatDoorW.PrintWords Go.Proofs.YtopdjokncbpghaaGreatDoorW.PrintMore
def up (c : UInt8) : UInt8 := if 97 ≤ c.toNat ∧ c.toNat ≤ 122 then c - 32 else c
def foldAt (l : List UInt8) (k : Nat) : List UInt8 := (l.take k).map up ++ l.drop k
theorem foldAt_length (l : List UInt8) (k : Nat) : (foldAt l k).length = l.length := by unfold foldAt; simp; omega
def BytesAt (w : World) (B : Nat) (l : List UInt8) : Prop := ∀ j (h : j < l.length), w.cell? ⟨B, j, none⟩ = some (.int .u8 (l[j].toNat : Int)) ∧ w.frozen? ⟨B, j, none⟩ = false
theorem foldAt_get (l : List UInt8) (k j : Nat) (h : j < (foldAt l k).length) (h2 : j < l.length) : (foldAt l k)[j] = if j < k then up l[j] else l[j] := by
 have e : (foldAt l k)[j] = (List.map up (l.take k) ++ l.drop k)[j]'(by simpa [foldAt] using h) := rfl
 rw [e, List.getElem_append]
 split
 ·rename_i hj
  simp at hj
  rw [if_pos (by omega)]
  simp
 ·rename_i hj
  simp at hj
  rw [if_neg (by omega)]
  simp
  congr 1
  omega
theorem up_le (c : UInt8) (h : 97 ≤ c.toNat) (h2 : c.toNat ≤ 122) : ((up c).toNat : Int) = (c.toNat : Int) - 97 + 65 := by
 unfold up
 rw [if_pos ⟨h, h2⟩, UInt8.toNat_sub_of_le _ _ (by rw [UInt8.le_iff_toNat_le]; show 32 ≤ _; omega)]
 show ((c.toNat - 32 : Nat) : Int) = _
 omega
theorem up_no (c : UInt8) (h : ¬ (97 ≤ c.toNat ∧ c.toNat ≤ 122)) : up c = c := by unfold up; rw [if_neg h]
theorem foldAt_zero (l : List UInt8) : foldAt l 0 = l := by simp [foldAt]
theorem foldAt_all (l : List UInt8) (k : Nat) (h : ¬ k < l.length) : foldAt l k = l.map up := by
 unfold foldAt
 rw [List.take_of_length_le (by omega), List.drop_of_length_le (by omega), List.append_nil]
theorem bytesAt_same {w : World} {B : Nat} {l : List UInt8} {k : Nat} (h : BytesAt w B (foldAt l k)) (hk : k < l.length) (hu : up l[k] = l[k]) : BytesAt w B (foldAt l (k + 1)) := by
 intro j hj
 have hj2 : j < l.length := by rw [foldAt_length] at hj; exact hj
 have := h j (by rw [foldAt_length]; exact hj2)
 rw [foldAt_get l k j _ hj2] at this
 rw [foldAt_get l (k + 1) j _ hj2]
 by_cases c : j < k
 ·rw [if_pos c] at this; rw [if_pos (by omega)]; exact this
 ·rw [if_neg c] at this
  by_cases c2 : j = k
  ·subst c2; rw [if_pos (by omega), hu]; exact this
  ·rw [if_neg (by omega)]; exact this
theorem bytesAt_set {w : World} {B : Nat} {l : List UInt8} {k : Nat} (h : BytesAt w B (foldAt l k)) (hk : k < l.length) (v : Int) (hv : v = ((up l[k]).toNat : Int)) : BytesAt (w.setCell ⟨B, k, none⟩ (.int .u8 v)) B (foldAt l (k + 1)) := by
 subst hv
 intro j hj
 have hj2 : j < l.length := by rw [foldAt_length] at hj; exact hj
 have h1 := h j (by rw [foldAt_length]; exact hj2)
 have hkk := h k (by rw [foldAt_length]; exact hk)
 rw [foldAt_get l k j _ hj2] at h1
 rw [foldAt_get l (k + 1) j _ hj2]
 refine ⟨?_, by rw [World.frozen?_setCell]; exact h1.2⟩
 by_cases c2 : j = k
 ·subst c2; rw [if_pos (by omega)]; exact World.cell?_setCell_same _ _ _ hkk.1
 ·rw [World.cell?_setCell_other _ _ _ _ (by first | (simp; done) | (simp; omega))]
  by_cases c : j < k
  ·rw [if_pos c] at h1; rw [if_pos (by omega)]; exact h1.1
  ·rw [if_neg c] at h1; rw [if_neg (by omega)]; exact h1.1
theorem bytesAt_back {P : Program} {w : World} {B : Nat} {l : List UInt8} {src dst e : TypeId} (cap : Nat) (h : BytesAt w B l) (hs : P.underlying src = some (.slice e)) (he : P.underlying e = some (.int .u8)) (hd : P.underlying dst = some .string) (n : Nat) (hn : n = l.length) :
  (convert src dst (.slice (some ⟨B, 0, none⟩) n cap)).run P w = .ok (.string ⟨l.toArray⟩) w := by
 subst hn
 exact run_convert_bytes_back w src dst e ⟨B, 0, none⟩ cap l hs he hd (fun j hj => by rw [add_plain]; first | exact (h j hj).1 | (rw [Nat.zero_add]; exact (h j hj).1))
theorem setCell_heap_size (w : World) (a : Addr) (v : Value) : (w.setCell a v).heap.size = w.heap.size := by unfold World.setCell; simp
theorem bytesAt_new (w : World) (l : List UInt8) (cap : Nat) : BytesAt (w.drew.alloc (.cells (bytesRow ⟨l.toArray⟩ cap) 5 ((bytesRow ⟨l.toArray⟩ cap).size, (bytesRow ⟨l.toArray⟩ cap).size + 1))) w.heap.size l := by
 intro j hj
 have hsz : l.length ≤ (bytesRow ⟨l.toArray⟩ cap).size := by simp [bytesRow]
 refine ⟨?_, ?_⟩
 ·have := bytesRow_at ⟨l.toArray⟩ cap j (by simpa using hj)
  show (w.drew.alloc _).cell? ⟨w.drew.heap.size, j, none⟩ = _
  rw [World.cell?_alloc_mark, this]
  simp
 ·show (w.drew.alloc _).frozen? ⟨w.drew.heap.size, j, none⟩ = _
  rw [World.frozen?_alloc_mark]
  simp
  omega
theorem fold_walk (l : List UInt8) (w : World) (cap : Nat) (w1 : World) (hl : l.length ≤ 140737488351232)
  (hconv : (convert 9 150 (.string ⟨l.toArray⟩)).run Tryz.prog w = .ok (.slice (some ⟨w.heap.size, 0, none⟩) l.length cap) w1)
  (hb : BytesAt w1 w.heap.size (foldAt l 0)) (hbel : Below w.heap.size w w1) (hsz : w.heap.size < w1.heap.size) :
  Calls Tryz.prog 86 #[.string ⟨l.toArray⟩] w fun e w' => e = .returned (.string ⟨(l.map up).toArray⟩) ∧ Below w.heap.size w w' := by
 go_enter Tryz.func86, Tryz.ntmps86
 go_wp2
 go_loopw [4] (fun n wr => ∃ k : Nat, k ≤ l.length ∧ n = .int .i64 k ∧ BytesAt wr w.heap.size (foldAt l k) ∧ Below w.heap.size w wr ∧ w.heap.size < wr.heap.size) (fun n _ => l.length - (intOf n).toNat)
 case atStart => exact ⟨0, Nat.zero_le _, rfl, hb, hbel, hsz⟩
 case round =>
  obtain ⟨k, hk, rfl, hb, hbel, hsz⟩ := hrel
  by_cases hlt : k < l.length
  ·have hck := hb k (by rw [foldAt_length]; exact hlt)
   rw [foldAt_get l k k _ hlt, if_neg (Nat.lt_irrefl k)] at hck
   obtain ⟨hc, hf⟩ := hck
   go_wp2
   ·have h1 : 97 ≤ (l[k].toNat : Int) := by assumption
    have h2 : (l[k].toNat : Int) ≤ 122 := by assumption
    refine ⟨⟨k + 1, hlt, by go_num, bytesAt_set hb hlt _ (up_le l[k] (by omega) (by omega)).symm, hbel.setCell (Nat.le_refl _) _, by rw [setCell_heap_size]; exact hsz⟩, ?_⟩
    simp [intOf]; omega
   ·have h2 : 122 < (l[k].toNat : Int) := by assumption
    refine ⟨⟨k + 1, hlt, by go_num, bytesAt_same hb hlt (up_no _ (by omega)), hbel, hsz⟩, ?_⟩
    simp [intOf]; omega
   ·have h1 : ¬ 97 ≤ (l[k].toNat : Int) := by assumption
    refine ⟨⟨k + 1, hlt, by go_num, bytesAt_same hb hlt (up_no _ (by omega)), hbel, hsz⟩, ?_⟩
    simp [intOf]; omega
  ·rw [foldAt_all l k hlt] at hb
   have hback := bytesAt_back (P := Tryz.prog) (src := 150) (dst := 9) (e := 5) cap hb Tryz.underlying150 Tryz.underlying5 Tryz.underlying9 l.length (by simp)
   go_wp2
   go_ret
   exact ⟨rfl, hbel⟩
theorem fold_calls (l : List UInt8) (w : World) (hl : l.length ≤ 140737488351232) :
  Calls Tryz.prog 86 #[.string ⟨l.toArray⟩] w fun e w' => e = .returned (.string ⟨(l.map up).toArray⟩) ∧ Below w.heap.size w w' := by
 have hconv := run_bytes_of_string (P := Tryz.prog) w 9 150 5 ⟨l.toArray⟩ Tryz.underlying9 Tryz.underlying150 Tryz.underlying5
 refine fold_walk l w _ _ hl hconv ?_ ?_ ?_
 ·rw [foldAt_zero]; exact bytesAt_new w l _
 ·exact (Below.refl _ _).drew.alloc (Nat.le_refl _) _
 ·show w.heap.size < (w.heap.push _).size
  simp
def foldB (a : ByteArray) : ByteArray := ⟨(a.data.toList.map up).toArray⟩
def foolscapref04_Fold.f (a0 : ByteArray) : Option ByteArray := if a0.size ≤ 140737488351232 then some (foldB a0) else none
theorem foolscapref04_Fold.calls (a0 r : ByteArray) (w : World) (h : foolscapref04_Fold.f a0 = some r) :
  Calls Tryz.prog 86 #[.string a0] w fun e w' => e = .returned (.string r) ∧ Below w.heap.size w w' := by
 unfold foolscapref04_Fold.f at h
 split at h
 ·rename_i c
  obtain rfl := Option.some.inj h
  obtain ⟨⟨l⟩⟩ := a0
  exact fold_calls l w c
 ·cases h
end Go.Proofs.YtopdjokncbpghaaGreatDoor.Pr
end
