/-
  What the law CritMeans leans on, out of the texts that were printed and written for this seat: only what its proof mentions (gathered by a program of the author's).
-/
import Derived.Test.YtngdggmlfoogcaaGreatDoorSCritMeans4
import Derived.Below
import Derived.Laws.IdiomStrings
import Derived.Laws.NewBlocks
import Derived.Laws.RangeAny
import Derived.LoopTactic
import Derived.WalkKit
section
namespace Go.Proofs.YtngdggmlfoogcaaGreatDoor.Pr
set_option linter.unusedVariables false
set_option linter.unusedSimpArgs false
open Go.RowKit Go.Proofs.YtngdggmlfoogcaaGreatDoorW.PrintWords Go.Proofs.YtngdggmlfoogcaaGreatDoorW.PrintMore
def up (c : UInt8) : UInt8 := if 97 ≤ c.toNat ∧ c.toNat ≤ 122 then c - 32 else c
def foldAt (l : List UInt8) (k : Nat) : List UInt8 := (l.take k).map up ++ l.drop k
theorem foldAt_length (l : List UInt8) (k : Nat) : (foldAt l k).length = l.length := by unfold foldAt; simp; omega
def BytesAt (w : World) (B : Nat) (l : List UInt8) : Prop := ∀ j (h : j < l.length), w.cell? ⟨B, j, none⟩ = some (.int .u8 (l[j].toNat : Int)) ∧ w.frozen? ⟨B, j, none⟩ = false
theorem foldAt_get (l : List UInt8) (k j : Nat) (h : j < (foldAt l k).length) (h2 : j < l.length) : (foldAt l k)[j] = if j < k then up l[j] else l[j] := by
  have e : (foldAt l k)[j] = (List.map up (l.take k) ++ l.drop k)[j]'(by simpa [foldAt] using h) := rfl
  rw [e, List.getElem_append]
  split
  · rename_i hj
    simp at hj
    rw [if_pos (by omega)]
    simp
  · rename_i hj
    simp at hj
    rw [if_neg (by omega)]
    simp
    congr 1
    omega
theorem up_le (c : UInt8) (h : 97 ≤ c.toNat) (h2 : c.toNat ≤ 122) : ((up c).toNat : Int) = (c.toNat : Int) - 97 + 65 := by
  unfold up
  rw [if_pos ⟨h, h2⟩, UInt8.toNat_sub_of_le _ _ (by rw [UInt8.le_iff_toNat_le]; show 32 ≤ _; omega)]
  show ((c.toNat - 32 : Nat) : Int) = _
  omega
theorem up_no (c : UInt8) (h : ¬ (97 ≤ c.toNat ∧ c.toNat ≤ 122)) : up c = c := by unfold up; rw [if_neg h]
theorem foldAt_zero (l : List UInt8) : foldAt l 0 = l := by simp [foldAt]
theorem foldAt_all (l : List UInt8) (k : Nat) (h : ¬ k < l.length) : foldAt l k = l.map up := by
  unfold foldAt
  rw [List.take_of_length_le (by omega), List.drop_of_length_le (by omega), List.append_nil]
theorem bytesAt_same {w : World} {B : Nat} {l : List UInt8} {k : Nat} (h : BytesAt w B (foldAt l k)) (hk : k < l.length) (hu : up l[k] = l[k]) : BytesAt w B (foldAt l (k + 1)) := by
  intro j hj
  have hj2 : j < l.length := by rw [foldAt_length] at hj; exact hj
  have := h j (by rw [foldAt_length]; exact hj2)
  rw [foldAt_get l k j _ hj2] at this
  rw [foldAt_get l (k + 1) j _ hj2]
  by_cases c : j < k
  · rw [if_pos c] at this; rw [if_pos (by omega)]; exact this
  · rw [if_neg c] at this
    by_cases c2 : j = k
    · subst c2; rw [if_pos (by omega), hu]; exact this
    · rw [if_neg (by omega)]; exact this
theorem bytesAt_set {w : World} {B : Nat} {l : List UInt8} {k : Nat} (h : BytesAt w B (foldAt l k)) (hk : k < l.length) (v : Int) (hv : v = ((up l[k]).toNat : Int)) : BytesAt (w.setCell ⟨B, k, none⟩ (.int .u8 v)) B (foldAt l (k + 1)) := by
  subst hv
  intro j hj
  have hj2 : j < l.length := by rw [foldAt_length] at hj; exact hj
  have h1 := h j (by rw [foldAt_length]; exact hj2)
  have hkk := h k (by rw [foldAt_length]; exact hk)
  rw [foldAt_get l k j _ hj2] at h1
  rw [foldAt_get l (k + 1) j _ hj2]
  refine ⟨?_, by rw [World.frozen?_setCell]; exact h1.2⟩
  by_cases c2 : j = k
  · subst c2; rw [if_pos (by omega)]; exact World.cell?_setCell_same _ _ _ hkk.1
  · rw [World.cell?_setCell_other _ _ _ _ (by first | (simp; done) | (simp; omega))]
    by_cases c : j < k
    · rw [if_pos c] at h1; rw [if_pos (by omega)]; exact h1.1
    · rw [if_neg c] at h1; rw [if_neg (by omega)]; exact h1.1
theorem bytesAt_back {P : Program} {w : World} {B : Nat} {l : List UInt8} {src dst e : TypeId} (cap : Nat) (h : BytesAt w B l) (hs : P.underlying src = some (.slice e)) (he : P.underlying e = some (.int .u8)) (hd : P.underlying dst = some .string) (n : Nat) (hn : n = l.length) :
    (convert src dst (.slice (some ⟨B, 0, none⟩) n cap)).run P w = .ok (.string ⟨l.toArray⟩) w := by
  subst hn
  exact run_convert_bytes_back w src dst e ⟨B, 0, none⟩ cap l hs he hd (fun j hj => by rw [add_plain]; first | exact (h j hj).1 | (rw [Nat.zero_add]; exact (h j hj).1))
theorem setCell_heap_size (w : World) (a : Addr) (v : Value) : (w.setCell a v).heap.size = w.heap.size := by unfold World.setCell; simp
theorem bytesAt_new (w : World) (l : List UInt8) (cap : Nat) : BytesAt (w.drew.alloc (.cells (bytesRow ⟨l.toArray⟩ cap) 5 ((bytesRow ⟨l.toArray⟩ cap).size, (bytesRow ⟨l.toArray⟩ cap).size + 1))) w.heap.size l := by
  intro j hj
  have hsz : l.length ≤ (bytesRow ⟨l.toArray⟩ cap).size := by simp [bytesRow]
  refine ⟨?_, ?_⟩
  · have := bytesRow_at ⟨l.toArray⟩ cap j (by simpa using hj)
    show (w.drew.alloc _).cell? ⟨w.drew.heap.size, j, none⟩ = _
    rw [World.cell?_alloc_mark, this]
    simp
  · show (w.drew.alloc _).frozen? ⟨w.drew.heap.size, j, none⟩ = _
    rw [World.frozen?_alloc_mark]
    simp
    omega
set_option maxHeartbeats 4000000 in
set_option maxRecDepth 100000 in
theorem fold_walk (l : List UInt8) (w : World) (cap : Nat) (w1 : World) (hl : l.length ≤ 140737488351232)
    (hconv : (convert 9 62 (.string ⟨l.toArray⟩)).run Tryz.prog w = .ok (.slice (some ⟨w.heap.size, 0, none⟩) l.length cap) w1)
    (hb : BytesAt w1 w.heap.size (foldAt l 0)) (hbel : Below w.heap.size w w1) (hsz : w.heap.size < w1.heap.size) :
    Calls Tryz.prog 45 #[.string ⟨l.toArray⟩] w fun e w' => e = .returned (.string ⟨(l.map up).toArray⟩) ∧ Below w.heap.size w w' := by
  go_enter Tryz.func45, Tryz.ntmps45
  go_wp2
  go_loopw [4] (fun n wr => ∃ k : Nat, k ≤ l.length ∧ n = .int .i64 k ∧ BytesAt wr w.heap.size (foldAt l k) ∧ Below w.heap.size w wr ∧ w.heap.size < wr.heap.size) (fun n _ => l.length - (intOf n).toNat)
  case atStart => exact ⟨0, Nat.zero_le _, rfl, hb, hbel, hsz⟩
  case round =>
    obtain ⟨k, hk, rfl, hb, hbel, hsz⟩ := hrel
    by_cases hlt : k < l.length
    · have hck := hb k (by rw [foldAt_length]; exact hlt)
      rw [foldAt_get l k k _ hlt, if_neg (Nat.lt_irrefl k)] at hck
      obtain ⟨hc, hf⟩ := hck
      go_wp2
      · have h1 : 97 ≤ (l[k].toNat : Int) := by assumption
        have h2 : (l[k].toNat : Int) ≤ 122 := by assumption
        refine ⟨⟨k + 1, hlt, by go_num, bytesAt_set hb hlt _ (up_le l[k] (by omega) (by omega)).symm, hbel.setCell (Nat.le_refl _) _, by rw [setCell_heap_size]; exact hsz⟩, ?_⟩
        simp [intOf]; omega
      · have h2 : 122 < (l[k].toNat : Int) := by assumption
        refine ⟨⟨k + 1, hlt, by go_num, bytesAt_same hb hlt (up_no _ (by omega)), hbel, hsz⟩, ?_⟩
        simp [intOf]; omega
      · have h1 : ¬ 97 ≤ (l[k].toNat : Int) := by assumption
        refine ⟨⟨k + 1, hlt, by go_num, bytesAt_same hb hlt (up_no _ (by omega)), hbel, hsz⟩, ?_⟩
        simp [intOf]; omega
    · rw [foldAt_all l k hlt] at hb
      have hback := bytesAt_back (P := Tryz.prog) (src := 62) (dst := 9) (e := 5) cap hb Tryz.underlying62 Tryz.underlying5 Tryz.underlying9 l.length (by simp)
      go_wp2
      go_ret
      exact ⟨rfl, hbel⟩
theorem fold_calls (l : List UInt8) (w : World) (hl : l.length ≤ 140737488351232) :
    Calls Tryz.prog 45 #[.string ⟨l.toArray⟩] w fun e w' => e = .returned (.string ⟨(l.map up).toArray⟩) ∧ Below w.heap.size w w' := by
  have hconv := run_bytes_of_string (P := Tryz.prog) w 9 62 5 ⟨l.toArray⟩ Tryz.underlying9 Tryz.underlying62 Tryz.underlying5
  refine fold_walk l w _ _ hl hconv ?_ ?_ ?_
  · rw [foldAt_zero]; exact bytesAt_new w l _
  · exact (Below.refl _ _).drew.alloc (Nat.le_refl _) _
  · show w.heap.size < (w.heap.push _).size
    simp
theorem get_bang (l : List UInt8) (k : Nat) (h : k < l.length) : (⟨l.toArray⟩ : ByteArray).get! k = l[k] := by
  show (l.toArray)[k]! = _
  rw [getElem!_pos (l.toArray) k (by simpa using h)]
  simp
theorem get_at0 (l : List UInt8) (k : Nat) (h : k < l.length) : (⟨l.toArray⟩ : ByteArray)[k]'(by simpa [ByteArray.size] using h) = l[k] := by
  show (l.toArray)[k] = _
  simp
theorem decode_cont (s : ByteArray) (i t : Nat) (h1 : 1 ≤ t) (h2 : t < (Utf8.decode s i).2) : i + t < s.size ∧ 128 ≤ (s.get! (i + t)).toNat := by
  have key : ∀ k, (decide (i + k < s.size) && (s.get! (i + k)).toNat / 64 == 2) = true → i + k < s.size ∧ 128 ≤ (s.get! (i + k)).toNat := by
    intro k hk
    simp only [Bool.and_eq_true, decide_eq_true_eq, beq_iff_eq] at hk
    exact ⟨hk.1, by omega⟩
  simp only [Utf8.decode] at h2
  repeat' split at h2
  all_goals dsimp only at h2
  all_goals try (exfalso; omega)
  · rename_i _ h _
    obtain rfl : t = 1 := by omega
    exact key 1 (Bool.and_eq_true_iff.1 h).2
  · rename_i _ _ h _
    have h' := Bool.and_eq_true_iff.1 h
    rcases (show t = 1 ∨ t = 2 by omega) with rfl | rfl
    · exact key 1 (Bool.and_eq_true_iff.1 h'.1).2
    · exact key 2 h'.2
  · rename_i _ _ _ h _
    have h' := Bool.and_eq_true_iff.1 h
    have h'' := Bool.and_eq_true_iff.1 h'.1
    rcases (show t = 1 ∨ t = 2 ∨ t = 3 by omega) with rfl | rfl | rfl
    · exact key 1 (Bool.and_eq_true_iff.1 h''.1).2
    · exact key 2 h''.2
    · exact key 3 h'.2
theorem decode_le_end (s : ByteArray) (i : Nat) (h : i < s.size) : i + (Utf8.decode s i).2 ≤ s.size := by
  by_cases c : (Utf8.decode s i).2 ≤ 1
  · omega
  · have := (decode_cont s i ((Utf8.decode s i).2 - 1) (by omega) (by omega)).1
    omega
theorem bytesAt_skip {w : World} {B : Nat} {l : List UInt8} {k : Nat} (h : BytesAt w B (foldAt l k)) (n : Nat) (hk : k + n ≤ l.length) (hu : ∀ j (hj : j < l.length), k ≤ j → j < k + n → up l[j] = l[j]) : BytesAt w B (foldAt l (k + n)) := by
  induction n with
  | zero => exact h
  | succ n ih => exact bytesAt_same (k := k + n) (ih (by omega) (fun j hj h1 h2 => hu j hj h1 (by omega))) (show k + n < l.length by omega) (hu (k + n) (by omega) (by omega) (by omega))
theorem iter_setCell (w : World) (s : ByteArray) (p : Nat) (a : Addr) (v : Value) (h : a.block < w.heap.size) : (w.iter s p).setCell a v = (w.setCell a v).iter s p := by
  unfold World.setCell World.iter World.alloc
  simp only
  congr 1
  apply Array.ext
  · simp
  · intro i h1 h2
    simp only [Array.getElem_modify, Array.getElem_push]
    simp at h1
    by_cases hb : a.block = i
    · subst hb
      simp [h]
    · simp [hb]
theorem iter_cell (w : World) (s : ByteArray) (p : Nat) (a : Addr) (h : a.block < w.heap.size) : (w.iter s p).cell? a = w.cell? a := by
  unfold World.cell? World.iter World.alloc
  simp [Array.getElem?_push, Nat.ne_of_lt h]
theorem iter_frozen (w : World) (s : ByteArray) (p : Nat) (a : Addr) (h : a.block < w.heap.size) : (w.iter s p).frozen? a = w.frozen? a := by
  unfold World.frozen? World.iter World.alloc
  simp [Array.getElem?_push, Nat.ne_of_lt h]
theorem bytesAt_iter {w : World} {B : Nat} {l : List UInt8} (s : ByteArray) (p : Nat) (h : B < w.heap.size) : BytesAt (w.iter s p) B l ↔ BytesAt w B l := by
  unfold BytesAt
  constructor
  · intro H j hj
    have := H j hj
    rw [iter_cell _ _ _ _ h, iter_frozen _ _ _ _ h] at this
    exact this
  · intro H j hj
    rw [iter_cell _ _ _ _ h, iter_frozen _ _ _ _ h]
    exact H j hj
theorem up_high (c : UInt8) (h : 128 ≤ c.toNat) : up c = c := up_no c (by omega)
set_option maxHeartbeats 4000000 in
set_option maxRecDepth 100000 in
theorem vfold_walk (l : List UInt8) (w : World) (cap : Nat) (w1 : World) (hl : l.length ≤ 140737488351232)
    (hconv : (convert 9 62 (.string ⟨l.toArray⟩)).run Tryz.prog w = .ok (.slice (some ⟨w.heap.size, 0, none⟩) l.length cap) w1)
    (hb : BytesAt w1 w.heap.size (foldAt l 0)) (hbel : Below w.heap.size w w1) (hsz : w.heap.size < w1.heap.size) :
    Calls Tryz.prog 47 #[.string ⟨l.toArray⟩] w fun e w' => e = .returned (.string ⟨(l.map up).toArray⟩) ∧ Below w.heap.size w w' := by
  go_enter Tryz.func47, Tryz.ntmps47
  go_wp2
  go_loopw [] (fun wr => ∃ (k : Nat) (w0 : World), k ≤ l.length ∧ wr = w0.iter ⟨l.toArray⟩ k ∧ w0.heap.size = w1.heap.size ∧ BytesAt w0 w.heap.size (foldAt l k) ∧ Below w.heap.size w w0) (fun wr => l.length - wr.iterPos w1.heap.size)
  case atStart => exact ⟨0, w1, Nat.zero_le _, rfl, rfl, hb, hbel⟩
  case round =>
    obtain ⟨k, w0, hk, rfl, hs0, hb0, hbel0⟩ := hrel
    have hpos : (w0.iter ⟨l.toArray⟩ k).iterPos w1.heap.size = k := by rw [← hs0]; exact World.iterPos_iter _ _ _
    by_cases hlt : k < l.length
    · have hck := hb0 k (by rw [foldAt_length]; exact hlt)
      rw [foldAt_get l k k _ hlt, if_neg (Nat.lt_irrefl k)] at hck
      obtain ⟨hc, hf⟩ := hck
      have hBs : w.heap.size < w0.heap.size := by omega
      have hsize : k < (⟨l.toArray⟩ : ByteArray).size := by simpa [ByteArray.size] using hlt
      have hnx : (Instr.next (.pointer (some ⟨w1.heap.size, 0, none⟩)) true 0).run Tryz.prog (w0.iter ⟨l.toArray⟩ k) = .ok (.tuple #[.bool true, .int .i64 k, .int .i32 (Utf8.decode ⟨l.toArray⟩ k).1]) (w0.iter ⟨l.toArray⟩ (k + (Utf8.decode ⟨l.toArray⟩ k).2)) := by
        rw [← hs0]; exact run_next_any w0 ⟨l.toArray⟩ k 0 hsize
      by_cases ha : l[k].toNat < 128
      · have hd : Utf8.decode ⟨l.toArray⟩ k = (l[k].toNat, 1) := by
          have := decode_ascii ⟨l.toArray⟩ k hsize (by rw [get_at0 l k hlt]; exact ha)
          rw [get_at0 l k hlt] at this
          exact this
        rw [hd] at hnx
        have hci : (w0.iter ⟨l.toArray⟩ (k + 1)).cell? ⟨w.heap.size, k, none⟩ = some (.int .u8 (l[k].toNat : Int)) := by rw [iter_cell _ _ _ _ hBs]; exact hc
        have hfi : (w0.iter ⟨l.toArray⟩ (k + 1)).frozen? ⟨w.heap.size, k, none⟩ = false := by rw [iter_frozen _ _ _ _ hBs]; exact hf
        have hpos1 : (w0.iter ⟨l.toArray⟩ (k + 1)).iterPos w1.heap.size = k + 1 := by rw [← hs0]; exact World.iterPos_iter _ _ _
        go_wp2
        · have h1 : 97 ≤ (l[k].toNat : Int) := by assumption
          have h2 : (l[k].toNat : Int) ≤ 122 := by assumption
          rw [iter_setCell _ _ _ _ _ hBs]
          refine ⟨⟨k + 1, _, hlt, rfl, by rw [setCell_heap_size]; exact hs0, bytesAt_set hb0 hlt _ (by rw [up_le l[k] (by omega) (by omega)]; omega), hbel0.setCell (Nat.le_refl _) _⟩, ?_⟩
          have hp2 : ((w0.setCell ⟨w.heap.size, k, none⟩ (.int .u8 ((l[k].toNat : Int) - 32))).iter ⟨l.toArray⟩ (k + 1)).iterPos w1.heap.size = k + 1 := by
            rw [show w1.heap.size = (w0.setCell ⟨w.heap.size, k, none⟩ (.int .u8 ((l[k].toNat : Int) - 32))).heap.size by rw [setCell_heap_size, hs0]]
            exact World.iterPos_iter _ _ _
          rw [hp2, hpos]
          omega
        · have h2 : 122 < (l[k].toNat : Int) := by assumption
          refine ⟨⟨k + 1, w0, hlt, rfl, hs0, bytesAt_same hb0 hlt (up_no _ (by omega)), hbel0⟩, ?_⟩
          rw [hpos1, hpos]; omega
        · have h1 : ¬ 97 ≤ (l[k].toNat : Int) := by assumption
          refine ⟨⟨k + 1, w0, hlt, rfl, hs0, bytesAt_same hb0 hlt (up_no _ (by omega)), hbel0⟩, ?_⟩
          rw [hpos1, hpos]; omega
      · have hd := decode_high ⟨l.toArray⟩ k hsize (by rw [get_at0 l k hlt]; omega)
        have hend := decode_le_end ⟨l.toArray⟩ k hsize
        have hcont := decode_cont ⟨l.toArray⟩ k
        have hle := decode_le ⟨l.toArray⟩ k
        rw [show (⟨l.toArray⟩ : ByteArray).size = l.length by simp [ByteArray.size]] at hend
        obtain ⟨d, hde⟩ : ∃ d, Utf8.decode ⟨l.toArray⟩ k = d := ⟨_, rfl⟩
        rw [hde] at hnx hd hend hcont hle
        obtain ⟨c, n⟩ := d
        simp only at hnx hd hend hcont hle
        clear hde
        have hb2 : BytesAt w0 w.heap.size (foldAt l (k + n)) := by
          refine bytesAt_skip hb0 n hend fun j hj h1 h2 => up_high _ ?_
          by_cases e : j = k
          · subst e; omega
          · have := (hcont (j - k) (by omega) (by omega)).2
            rw [show k + (j - k) = j by omega, get_bang l j hj] at this
            exact this
        have hpos1 : (w0.iter ⟨l.toArray⟩ (k + n)).iterPos w1.heap.size = k + n := by rw [← hs0]; exact World.iterPos_iter _ _ _
        have hc97 : (97 : Int) ≤ c := by omega
        have hc122 : (122 : Int) < c := by omega
        clear hcont
        go_wp2
        refine ⟨⟨k + n, w0, hend, rfl, hs0, hb2, hbel0⟩, ?_⟩
        rw [hpos1, hpos]
        omega
    · have hnx : (Instr.next (.pointer (some ⟨w1.heap.size, 0, none⟩)) true 0).run Tryz.prog (w0.iter ⟨l.toArray⟩ k) = .ok (.tuple #[.bool false]) (w0.iter ⟨l.toArray⟩ k) := by
        rw [← hs0]; exact run_next_end w0 ⟨l.toArray⟩ k 0 (by simpa [ByteArray.size] using hlt)
      rw [foldAt_all l k hlt] at hb0
      have hBs : w.heap.size < w0.heap.size := by omega
      have hback := bytesAt_back (P := Tryz.prog) (src := 62) (dst := 9) (e := 5) cap ((bytesAt_iter ⟨l.toArray⟩ k hBs).2 hb0) Tryz.underlying62 Tryz.underlying5 Tryz.underlying9 l.length (by simp)
      go_wp2
      go_ret
      exact ⟨rfl, hbel0.alloc (Nat.le_of_lt hBs) _⟩
theorem vfold_calls (l : List UInt8) (w : World) (hl : l.length ≤ 140737488351232) :
    Calls Tryz.prog 47 #[.string ⟨l.toArray⟩] w fun e w' => e = .returned (.string ⟨(l.map up).toArray⟩) ∧ Below w.heap.size w w' := by
  have hconv := run_bytes_of_string (P := Tryz.prog) w 9 62 5 ⟨l.toArray⟩ Tryz.underlying9 Tryz.underlying62 Tryz.underlying5
  refine vfold_walk l w _ _ hl hconv ?_ ?_ ?_
  · rw [foldAt_zero]; exact bytesAt_new w l _
  · exact (Below.refl _ _).drew.alloc (Nat.le_refl _) _
  · show w.heap.size < (w.heap.push _).size
    simp
def foldB (a : ByteArray) : ByteArray := ⟨(a.data.toList.map up).toArray⟩
def foolscapref04_Fold.f (a0 : ByteArray) : Option ByteArray := if a0.size ≤ 140737488351232 then some (foldB a0) else none
def value_Fold.f (a0 : ByteArray) : Option ByteArray := if a0.size ≤ 140737488351232 then some (foldB a0) else none
theorem foolscapref04_Fold.calls (a0 r : ByteArray) (w : World) (h : foolscapref04_Fold.f a0 = some r) :
    Calls Tryz.prog 45 #[.string a0] w fun e w' => e = .returned (.string r) ∧ Below w.heap.size w w' := by
  unfold foolscapref04_Fold.f at h
  split at h
  · rename_i c
    obtain rfl := Option.some.inj h
    obtain ⟨⟨l⟩⟩ := a0
    exact fold_calls l w c
  · cases h
theorem value_Fold.calls (a0 r : ByteArray) (w : World) (h : value_Fold.f a0 = some r) :
    Calls Tryz.prog 47 #[.string a0] w fun e w' => e = .returned (.string r) ∧ Below w.heap.size w w' := by
  unfold value_Fold.f at h
  split at h
  · rename_i c
    obtain rfl := Option.some.inj h
    obtain ⟨⟨l⟩⟩ := a0
    exact vfold_calls l w c
  · cases h
end Go.Proofs.YtngdggmlfoogcaaGreatDoor.Pr
end
section
namespace Go.Proofs.YtngdggmlfoogcaaGreatDoor.Pr
set_option linter.unusedVariables false
set_option linter.unusedSimpArgs false
open Go.RowKit Go.Proofs.YtngdggmlfoogcaaGreatDoorW.PrintWords Go.Proofs.YtngdggmlfoogcaaGreatDoorW.PrintLast Go.Proofs.YtngdggmlfoogcaaGreatDoorW.PrintMore
attribute [local go_sem] max2_int min2_int max_two min_two max_three min_three max_four min_four   -- for this text's walks alone
def numsOf (t : ByteArray) : List Int := t.data.toList.map fun c => (c.toNat : Int)
theorem numsOf_length (t : ByteArray) : (numsOf t).length = t.size := by
  unfold numsOf
  rw [List.length_map, Array.length_toList]
  rfl
theorem stepInfo : (Tryz.prog.info? 66).map (fun i => (i.zero, i.size, i.bytes)) = some (some (.agg #[(.bool false), (.bool false), (.int .u8 0)]), 3, 3) := by kernel_rfl
set_option maxRecDepth 100000 in
theorem conv_nums (w1 : World) (t : ByteArray) (ht : t.size ≤ 140737488351232) : ∃ (w : World) (cap : Nat) (A0 : Option Addr), (convert 9 62 (.string t)).run Tryz.prog w1 = .ok (.slice A0 (numsOf t).length cap) w ∧
    Kd.C (Kd.int .u8) w A0 (numsOf t).length (numsOf t) ∧ Below w1.heap.size w1 w ∧ (numsOf t).length ≤ cap := by
  have hconv := run_bytes_of_string (P := Tryz.prog) w1 9 62 5 t Tryz.underlying9 Tryz.underlying62 Tryz.underlying5
  rw [← numsOf_length] at hconv
  refine ⟨_, _, _, hconv, ?_, (Below.refl _ _).drew.alloc (Nat.le_refl _) _, ?_⟩
  · refine ⟨rfl, by rw [numsOf_length]; omega, fun _ => ⟨_, rfl, fun j p hp => ⟨[.int .u8 p], rfl, rfl, fun i u hu => ?_⟩⟩⟩
    have hj : j < t.size := by
      have := (List.getElem?_eq_some_iff.mp hp).1
      rw [numsOf_length] at this
      exact this
    match i, hu with
    | 0, hu =>
      cases hu
      have hat := bytesRow_at t (grownCap w1 (numsOf t).length 0 5) j hj
      have hv : p = ((t.data[j]'hj).toNat : Int) := by
        unfold numsOf at hp
        rw [List.getElem?_map, List.getElem?_eq_getElem (by rw [Array.length_toList]; exact hj)] at hp
        simpa using hp.symm
      have hc := World.cell?_alloc_mark w1.drew (bytesRow t (grownCap w1 (numsOf t).length 0 5)) 5 ((bytesRow t (grownCap w1 (numsOf t).length 0 5)).size, (bytesRow t (grownCap w1 (numsOf t).length 0 5)).size + 1) j
      have hadd : (⟨w1.heap.size, 0, none⟩ : Addr).add (j * (Kd.int IntKind.u8).sz + 0) = ⟨w1.drew.heap.size, j, none⟩ := by
        rw [add_plain]
        show (⟨w1.heap.size, _, none⟩ : Addr) = ⟨w1.heap.size, j, none⟩
        congr 1
        show j * 1 + 0 = j
        omega
      rw [hadd]
      refine Eq.trans hc ?_
      rw [hat, hv]
  · exact grownCap_ge _ _ _ _
mutual
def crit_stepsB.l0 : Nat → List (S66) → Bool → List Int → Int → Int → Option ((List (S66)))
  | 0, _, _, _, _, _ => none
  | k + 1, x3, x4, x9, x10, x11 => if x11 < x10 then (if 0 ≤ x11 then (if x11 < (x9.length : Int) then (if x4 = true then (crit_stepsB.j1 k x3 x4 (rd x9 x11) x9 x10 x11 true) else (if (rd x9 x11) = 126 then (crit_stepsB.j1 k x3 x4 (rd x9 x11) x9 x10 x11 false) else (if (rd x9 x11) = 63 then (crit_stepsB.j1 k x3 x4 (rd x9 x11) x9 x10 x11 false) else (crit_stepsB.j1 k x3 x4 (rd x9 x11) x9 x10 x11 ((rd x9 x11) != 42))))) else (none)) else (none)) else (if x4 = true then (if x3.length < 46912496118442 then (some (x3 ++ [(⟨false, false, 126⟩ : S66)])) else (none)) else (some x3))
def crit_stepsB.j1 : Nat → List (S66) → Bool → Int → List Int → Int → Int → Bool → Option ((List (S66)))
  | 0, _, _, _, _, _, _, _ => none
  | k + 1, x3, x4, x6, x9, x10, x11, x23 => if x23 = true then (if x3.length < 46912496118442 then (crit_stepsB.l0 k (x3 ++ [(⟨false, false, x6⟩ : S66)]) false x9 x10 (wrap64 (x11 + 1))) else (none)) else (if x6 = 126 then (crit_stepsB.l0 k x3 true x9 x10 (wrap64 (x11 + 1))) else (if x3.length < 46912496118442 then (crit_stepsB.l0 k (x3 ++ [(⟨(x6 == 63), (x6 == 42), 0⟩ : S66)]) x4 x9 x10 (wrap64 (x11 + 1))) else (none)))
end
def crit_stepsB.f (k : Nat) (l0 : List Int) : Option ((List (S66))) := crit_stepsB.l0 k ([] : List (S66)) false l0 (l0.length : Int) 0
set_option maxHeartbeats 8000000 in
set_option maxRecDepth 100000 in
theorem crit_stepsB_walk (k : Nat) (a0 t : ByteArray) (r : List (S66)) (wA : World) (hf : value_Fold.f a0 = some t) (ht : t.size ≤ 140737488351232) (h : crit_stepsB.f k (numsOf t) = some r) :
    Calls Tryz.prog 35 #[.string a0] wA fun e w' => ∃ v0_ : Value, e = .returned (v0_) ∧ Kd.R k66 66 w' wA.heap.size (fun _ => True) v0_ r ∧ Below wA.heap.size wA w' := by
  have hu41 := Tryz.underlying66
  have HF := Aside0.mk hf
  have HT := Aside0.mk ht
  clear hf ht
  obtain ⟨l0, hl0⟩ : ∃ l, l = numsOf t := ⟨_, rfl⟩
  rw [← hl0] at h
  have HL := Aside0.mk hl0
  clear hl0
  have H : (crit_stepsB.l0 k ([] : List (S66)) false l0 (l0.length : Int) 0) = some r := h
  clear h
  have H' := Aside0.mk H
  clear H
  go_enter Tryz.func35, Tryz.ntmps35
  go_wp2_with (go_at_call 47; (with_reducible refine (value_Fold.calls _ _ _ HF.out).mono ?_); rintro e w1 ⟨rfl, hbF⟩; obtain ⟨w, cap, A0, hconv, hr0, hbC, hc0⟩ := conv_nums w1 t HT.out; rw [← HL.out] at hconv hr0 hc0; have HR0 := Aside0.mk hr0; have HC0 := Aside0.mk hc0; have hall := Aside0.mk (hbF.trans (hbC.mono hbF.size)); have hle := Aside0.mk (Nat.le_trans hbF.size hbC.size); clear hr0 hc0 hbF hbC)
  have HB := Aside0.mk (Below.refl w.heap.size w)
  go_loopg [3, 4, 11] k (fun kq v3 v4 v11 w' => ∃ (x3_1 : List (S66)) (x4_1 : Bool) (x11_1 : Int), v4 = .bool x4_1 ∧ v11 = .int .i64 x11_1 ∧ Aside0 (crit_stepsB.l0 kq x3_1 x4_1 l0 (l0.length : Int) x11_1 = some r) ∧ Aside0 (kq ≤ k) ∧ Aside0 (Kd.R k66 66 w' w.heap.size (fun _ => True) v3 x3_1) ∧ Aside0 (Below w.heap.size w w'))
  case atStart => exact ⟨(([] : List (S66))), (false), (0), (by first | rfl | (simp; done) | (simp [*]; done)), (by first | rfl | (simp; done) | (simp [*]; done)), H', ⟨Nat.le_refl _⟩, ⟨by first | exact Kd.R_nil _ _ _ _ _ | exact Kd.N_nil _ _ _ _ _ | exact Kd.V_nil _ _ _ _ _ | exact Kd.Q_nil _ _ _ _ _ | exact Kd.S_nil _ _ _ _ _⟩, ⟨by repeat (first | (with_reducible first | exact HB.out | apply bqA | apply bqN | apply bqD) | exact HB.out)⟩⟩
  case round =>
    clear H'
    try clear c1
    obtain ⟨x3_1, x4_1, x11_1, rfl, rfl, HA, HK1, HO_3, HB⟩ := hrel
    cases gk with
    | zero => exact absurd HA.out (by simp [crit_stepsB.l0])
    | succ k1 =>
      have H := HA.out
      clear HA
      simp only [crit_stepsB.l0] at H
      by_cases c2 : x11_1 < (l0.length : Int)
      · rw [if_pos c2] at H
        have c2b0 : decide (x11_1 < (l0.length : Int)) = true := decide_eq_true c2
        clear c2
        by_cases c3 : 0 ≤ x11_1
        · rw [if_pos c3] at H
          have c3b0 : decide (0 ≤ x11_1) = true := decide_eq_true c3
          clear c3
          by_cases c4 : x11_1 < (l0.length : Int)
          · rw [if_pos c4] at H
            have c4b0 : decide (x11_1 < (l0.length : Int)) = true := decide_eq_true c4
            clear c4
            have HC5 := Aside0.mk H
            clear H
            have p104 : 0 ≤ (x11_1 : Int) := of_decide_eq_true (by first | (with_reducible assumption) | assumption)
            have q104 : x11_1 < (l0.length : Int) := of_decide_eq_true (by first | (with_reducible assumption) | assumption)
            obtain ⟨ad104, e104, hx104_0⟩ := Kd.at_int HR0.out x11_1 p104 q104
            cases e104
            replace hx104_0 := (HB.out.cell (World.block_lt_of_cell? w _ hx104_0)).trans hx104_0
            replace p104 := eq_true p104
            replace q104 := eq_true q104
            go_upto_region 7 with (fail)
            go_cut [23] (fun v23 wc => ∃ (kq : Nat) (x23_4 : Bool), v23 = .bool x23_4 ∧ Aside0 (crit_stepsB.j1 kq x3_1 x4_1 (rd l0 x11_1) l0 (l0.length : Int) x11_1 x23_4 = some r) ∧ Aside0 (kq ≤ k1) ∧ Aside0 (Kd.R k66 66 wc w.heap.size (fun _ => True) u3 x3_1) ∧ Aside0 (Below w.heap.size w wc))
            case first =>
              have H := HC5.out
              clear HC5
              by_cases c6 : x4_1 = true
              · subst c6
                have H1 : (crit_stepsB.j1 k1 x3_1 true (rd l0 x11_1) l0 (l0.length : Int) x11_1 true) = some r := by rw [if_pos rfl] at H; exact H
                clear H
                have H := H1
                clear H1
                have H' := Aside0.mk H
                clear H
                go_wp2
                go_meet
                case rel => exact ⟨_, (true), (by first | rfl | (simp; done) | (simp [*]; done)), H', ⟨by have := HK1.out; first | omega | exact Nat.le_refl _⟩, ⟨by (with_reducible repeat (first | apply Kd.R_alloc | apply Kd.R_drewN | apply Kd.R_drew)); exact HO_3.out⟩, ⟨by repeat (first | (with_reducible first | exact HB.out | apply bqA | apply bqN | apply bqD) | exact HB.out)⟩⟩
              · replace c6 := Bool.eq_false_iff.mpr c6
                subst c6
                have H1 : (if (rd l0 x11_1) = 126 then (crit_stepsB.j1 k1 x3_1 false (rd l0 x11_1) l0 (l0.length : Int) x11_1 false) else (if (rd l0 x11_1) = 63 then (crit_stepsB.j1 k1 x3_1 false (rd l0 x11_1) l0 (l0.length : Int) x11_1 false) else (crit_stepsB.j1 k1 x3_1 false (rd l0 x11_1) l0 (l0.length : Int) x11_1 ((rd l0 x11_1) != 42)))) = some r := by rw [if_neg (show ¬ (false = true) by decide)] at H; exact H
                clear H
                have H := H1
                clear H1
                by_cases c7 : (rd l0 x11_1) = 126
                · rw [if_pos c7] at H
                  have c7b0 : ((rd l0 x11_1) == 126) = true := beq_iff_eq.mpr c7
                  have c7b1 : ((rd l0 x11_1) != 126) = false := bne_eq_false_iff_eq.mpr c7
                  clear c7
                  (first | rw [c7b0] | (simp only [i64_w, i32_w]; rw [c7b0]) | skip)
                  have H' := Aside0.mk H
                  clear H
                  go_wp2
                  go_meet
                  case rel => exact ⟨_, (false), (by first | rfl | (simp; done) | (simp [*]; done)), H', ⟨by have := HK1.out; first | omega | exact Nat.le_refl _⟩, ⟨by (with_reducible repeat (first | apply Kd.R_alloc | apply Kd.R_drewN | apply Kd.R_drew)); exact HO_3.out⟩, ⟨by repeat (first | (with_reducible first | exact HB.out | apply bqA | apply bqN | apply bqD) | exact HB.out)⟩⟩
                · rw [if_neg c7] at H
                  have c7b0 : ((rd l0 x11_1) == 126) = false := beq_eq_false_iff_ne.mpr c7
                  have c7b1 : ((rd l0 x11_1) != 126) = true := bne_iff_ne.mpr c7
                  (first | rw [c7b0] | (simp only [i64_w, i32_w]; rw [c7b0]) | skip)
                  by_cases c8 : (rd l0 x11_1) = 63
                  · rw [if_pos c8] at H
                    have c8b0 : ((rd l0 x11_1) == 63) = true := beq_iff_eq.mpr c8
                    have c8b1 : ((rd l0 x11_1) != 63) = false := bne_eq_false_iff_eq.mpr c8
                    clear c8
                    have H' := Aside0.mk H
                    clear H
                    go_wp2
                    go_meet
                    case rel => exact ⟨_, (false), (by first | rfl | (simp; done) | (simp [*]; done)), H', ⟨by have := HK1.out; first | omega | exact Nat.le_refl _⟩, ⟨by (with_reducible repeat (first | apply Kd.R_alloc | apply Kd.R_drewN | apply Kd.R_drew)); exact HO_3.out⟩, ⟨by repeat (first | (with_reducible first | exact HB.out | apply bqA | apply bqN | apply bqD) | exact HB.out)⟩⟩
                  · rw [if_neg c8] at H
                    have c8b0 : ((rd l0 x11_1) == 63) = false := beq_eq_false_iff_ne.mpr c8
                    have c8b1 : ((rd l0 x11_1) != 63) = true := bne_iff_ne.mpr c8
                    have H' := Aside0.mk H
                    clear H
                    go_wp2
                    go_meet
                    case rel => exact ⟨_, (((rd l0 x11_1) != 42)), (by first | rfl | (simp; done) | (simp [*]; done)), H', ⟨by have := HK1.out; first | omega | exact Nat.le_refl _⟩, ⟨by (with_reducible repeat (first | apply Kd.R_alloc | apply Kd.R_drewN | apply Kd.R_drew)); exact HO_3.out⟩, ⟨by repeat (first | (with_reducible first | exact HB.out | apply bqA | apply bqN | apply bqD) | exact HB.out)⟩⟩
            case rest =>
              clear HC5
              try clear c1
              try clear p1
              try clear q1
              try clear hx1
              try clear c2
              try clear c2b0
              try clear p2
              try clear c3
              try clear c3b0
              try clear c4
              try clear c4b0
              try clear c6
              try clear c7
              try clear c7b0
              try clear c7b1
              try clear c8
              try clear c8b0
              try clear c8b1
              try clear hx104_0
              try clear p104
              try clear q104
              obtain ⟨kq, x23_4, rfl, HA, HJ4, HO_3, HB⟩ := hcut
              cases kq with
              | zero => exact absurd HA.out (by simp [crit_stepsB.j1])
              | succ kj4 =>
                have H := HA.out
                clear HA
                simp only [crit_stepsB.j1] at H
                by_cases c9 : x23_4 = true
                · subst c9
                  have H1 : (if x3_1.length < 46912496118442 then (crit_stepsB.l0 kj4 (x3_1 ++ [(⟨false, false, (rd l0 x11_1)⟩ : S66)]) false l0 (l0.length : Int) (wrap64 (x11_1 + 1))) else (none)) = some r := by rw [if_pos rfl] at H; exact H
                  clear H
                  have H := H1
                  clear H1
                  by_cases c10 : x3_1.length < 46912496118442
                  · rw [if_pos c10] at H
                    have LMc10 := Aside0.mk c10
                    clear c10
                    obtain ⟨y105, hy105⟩ : ∃ y_ : List (S66), y_ = (x3_1 ++ [(⟨false, false, (rd l0 x11_1)⟩ : S66)]) := ⟨_, rfl⟩
                    replace H : (crit_stepsB.l0 kj4 y105 false l0 (l0.length : Int) (wrap64 (x11_1 + 1))) = some r := by first | (rw [hy105]; with_reducible exact H) | (have H2_ := (Option.bind_some _ _).symm.trans H; rw [hy105]; with_reducible exact H2_) | (have H2_ := (Option.bind_some _ _).symm.trans H; with_reducible exact H2_) | with_reducible exact H | (rw [hy105]; exact H) | exact H
                    have Ny105 := Aside0.mk hy105
                    clear hy105
                    have H' := Aside0.mk H
                    clear H
                    go_wp2_with (first | ((with_reducible refine gate_builtin (b := .append) (xs := #[.tmp 37, .tmp 40]) rfl ?_); at_builtin; refine Kd.R_append k66 (w0 := w) w.heap.size rfl (.tmp 37) (.tmp 40) 63 66 (.agg #[(.bool false), (.bool false), (.int .u8 0)]) 3 rfl Tryz.underlying63 stepInfo rfl (by decide) (by omega) u3 x3_1 (⟨false, false, (rd l0 x11_1)⟩ : S66) [.bool false, .bool false, .int .u8 (rd l0 x11_1)] (fun _ => True) (fun _ => False) rfl rfl ?aP (fun _ hk => hk.elim) ?aF ?aO ?aB ?aS ?aL ?_; (case aP => exact k66_mkM _ _ _ (⟨false, false, (rd l0 x11_1)⟩ : S66)); (case aB => exact (by repeat (first | (with_reducible first | exact HB.out | apply bqA | apply bqN | apply bqD) | exact HB.out))); (case aF => exact (fun _ _ => trivial)); (case aO => exact (by (with_reducible repeat (first | apply Kd.R_alloc | apply Kd.R_drewN | apply Kd.R_drew)); exact HO_3.out)); (case aS => exact (below_size (by repeat (first | (with_reducible first | exact HB.out | apply bqA | apply bqN | apply bqD) | exact HB.out)))); (case aL => have := LMc10.out; omega); intro v106 w11 ho hb hg hat; rw [← Ny105.out] at ho; have n0_ := Aside0.mk (hb); have n1_ := Aside0.mk (ho); clear HB; clear HO_3; have HB := n0_; have HO107 := n1_; clear n0_ n1_; clear ho hb hg hat))
                    go_roundg kj4
                    case measure => have := HK1.out; have := HJ4.out; omega
                    case rel => exact ⟨(y105), (false), (wrap64 (x11_1 + 1)), (by first | rfl | (simp; done) | (simp [*]; done)), (by first | rfl | (simp; done) | (simp [*]; done)), H', ⟨by have := HK1.out; have := HJ4.out; omega⟩, ⟨by (with_reducible repeat (first | apply Kd.R_alloc | apply Kd.R_drewN | apply Kd.R_drew)); exact HO107.out⟩, ⟨by repeat (first | (with_reducible first | exact HB.out | apply bqA | apply bqN | apply bqD) | exact HB.out)⟩⟩
                  · rw [if_neg c10] at H
                    exact absurd H (by simp)
                · replace c9 := Bool.eq_false_iff.mpr c9
                  subst c9
                  have H1 : (if (rd l0 x11_1) = 126 then (crit_stepsB.l0 kj4 x3_1 true l0 (l0.length : Int) (wrap64 (x11_1 + 1))) else (if x3_1.length < 46912496118442 then (crit_stepsB.l0 kj4 (x3_1 ++ [(⟨((rd l0 x11_1) == 63), ((rd l0 x11_1) == 42), 0⟩ : S66)]) x4_1 l0 (l0.length : Int) (wrap64 (x11_1 + 1))) else (none))) = some r := by rw [if_neg (show ¬ (false = true) by decide)] at H; exact H
                  clear H
                  have H := H1
                  clear H1
                  by_cases c12 : (rd l0 x11_1) = 126
                  · rw [if_pos c12] at H
                    have c12b0 : ((rd l0 x11_1) == 126) = true := beq_iff_eq.mpr c12
                    have c12b1 : ((rd l0 x11_1) != 126) = false := bne_eq_false_iff_eq.mpr c12
                    clear c12
                    have H' := Aside0.mk H
                    clear H
                    go_wp2
                    go_roundg kj4
                    case measure => have := HK1.out; have := HJ4.out; omega
                    case rel => exact ⟨(x3_1), (true), (wrap64 (x11_1 + 1)), (by first | rfl | (simp; done) | (simp [*]; done)), (by first | rfl | (simp; done) | (simp [*]; done)), H', ⟨by have := HK1.out; have := HJ4.out; omega⟩, ⟨by (with_reducible repeat (first | apply Kd.R_alloc | apply Kd.R_drewN | apply Kd.R_drew)); exact HO_3.out⟩, ⟨by repeat (first | (with_reducible first | exact HB.out | apply bqA | apply bqN | apply bqD) | exact HB.out)⟩⟩
                  · rw [if_neg c12] at H
                    have c12b0 : ((rd l0 x11_1) == 126) = false := beq_eq_false_iff_ne.mpr c12
                    have c12b1 : ((rd l0 x11_1) != 126) = true := bne_iff_ne.mpr c12
                    by_cases c13 : x3_1.length < 46912496118442
                    · rw [if_pos c13] at H
                      have LMc13 := Aside0.mk c13
                      clear c13
                      obtain ⟨y108, hy108⟩ : ∃ y_ : List (S66), y_ = (x3_1 ++ [(⟨((rd l0 x11_1) == 63), ((rd l0 x11_1) == 42), 0⟩ : S66)]) := ⟨_, rfl⟩
                      replace H : (crit_stepsB.l0 kj4 y108 x4_1 l0 (l0.length : Int) (wrap64 (x11_1 + 1))) = some r := by first | (rw [hy108]; with_reducible exact H) | (have H2_ := (Option.bind_some _ _).symm.trans H; rw [hy108]; with_reducible exact H2_) | (have H2_ := (Option.bind_some _ _).symm.trans H; with_reducible exact H2_) | with_reducible exact H | (rw [hy108]; exact H) | exact H
                      have Ny108 := Aside0.mk hy108
                      clear hy108
                      have H' := Aside0.mk H
                      clear H
                      go_wp2_with (first | ((with_reducible refine gate_builtin (b := .append) (xs := #[.tmp 15, .tmp 21]) rfl ?_); at_builtin; refine Kd.R_append k66 (w0 := w) w.heap.size rfl (.tmp 15) (.tmp 21) 63 66 (.agg #[(.bool false), (.bool false), (.int .u8 0)]) 3 rfl Tryz.underlying63 stepInfo rfl (by decide) (by omega) u3 x3_1 (⟨((rd l0 x11_1) == 63), ((rd l0 x11_1) == 42), 0⟩ : S66) [.bool ((rd l0 x11_1) == 63), .bool ((rd l0 x11_1) == 42), .int .u8 0] (fun _ => True) (fun _ => False) rfl rfl ?aP (fun _ hk => hk.elim) ?aF ?aO ?aB ?aS ?aL ?_; (case aP => exact k66_mkM _ _ _ (⟨((rd l0 x11_1) == 63), ((rd l0 x11_1) == 42), 0⟩ : S66)); (case aB => exact (by repeat (first | (with_reducible first | exact HB.out | apply bqA | apply bqN | apply bqD) | exact HB.out))); (case aF => exact (fun _ _ => trivial)); (case aO => exact (by (with_reducible repeat (first | apply Kd.R_alloc | apply Kd.R_drewN | apply Kd.R_drew)); exact HO_3.out)); (case aS => exact (below_size (by repeat (first | (with_reducible first | exact HB.out | apply bqA | apply bqN | apply bqD) | exact HB.out)))); (case aL => have := LMc13.out; omega); intro v109 w14 ho hb hg hat; rw [← Ny108.out] at ho; have n0_ := Aside0.mk (hb); have n1_ := Aside0.mk (ho); clear HB; clear HO_3; have HB := n0_; have HO110 := n1_; clear n0_ n1_; clear ho hb hg hat))
                      go_roundg kj4
                      case measure => have := HK1.out; have := HJ4.out; omega
                      case rel => exact ⟨(y108), (x4_1), (wrap64 (x11_1 + 1)), (by first | rfl | (simp; done) | (simp [*]; done)), (by first | rfl | (simp; done) | (simp [*]; done)), H', ⟨by have := HK1.out; have := HJ4.out; omega⟩, ⟨by (with_reducible repeat (first | apply Kd.R_alloc | apply Kd.R_drewN | apply Kd.R_drew)); exact HO110.out⟩, ⟨by repeat (first | (with_reducible first | exact HB.out | apply bqA | apply bqN | apply bqD) | exact HB.out)⟩⟩
                    · rw [if_neg c13] at H
                      exact absurd H (by simp)
          · rw [if_neg c4] at H
            exact absurd H (by simp)
        · rw [if_neg c3] at H
          exact absurd H (by simp)
      · rw [if_neg c2] at H
        have c2b0 : decide (x11_1 < (l0.length : Int)) = false := decide_eq_false c2
        clear c2
        by_cases c15 : x4_1 = true
        · subst c15
          have H1 : (if x3_1.length < 46912496118442 then (some (x3_1 ++ [(⟨false, false, 126⟩ : S66)])) else (none)) = some r := by rw [if_pos rfl] at H; exact H
          clear H
          have H := H1
          clear H1
          by_cases c16 : x3_1.length < 46912496118442
          · rw [if_pos c16] at H
            have LMc16 := Aside0.mk c16
            clear c16
            obtain ⟨y101, hy101⟩ : ∃ y_ : List (S66), y_ = (x3_1 ++ [(⟨false, false, 126⟩ : S66)]) := ⟨_, rfl⟩
            replace H : (some y101) = some r := by first | (rw [hy101]; with_reducible exact H) | (have H2_ := (Option.bind_some _ _).symm.trans H; rw [hy101]; with_reducible exact H2_) | (have H2_ := (Option.bind_some _ _).symm.trans H; with_reducible exact H2_) | with_reducible exact H | (rw [hy101]; exact H) | exact H
            have Ny101 := Aside0.mk hy101
            clear hy101
            obtain rfl := Option.some.inj H
            go_wp2_with (first | ((with_reducible refine gate_builtin (b := .append) (xs := #[.tmp 47, .tmp 49]) rfl ?_); at_builtin; refine Kd.R_append k66 (w0 := w) w.heap.size rfl (.tmp 47) (.tmp 49) 63 66 (.agg #[(.bool false), (.bool false), (.int .u8 0)]) 3 rfl Tryz.underlying63 stepInfo rfl (by decide) (by omega) u3 x3_1 (⟨false, false, 126⟩ : S66) [.bool false, .bool false, .int .u8 126] (fun _ => True) (fun _ => False) rfl rfl ?aP (fun _ hk => hk.elim) ?aF ?aO ?aB ?aS ?aL ?_; (case aP => exact k66_mkM _ _ _ (⟨false, false, 126⟩ : S66)); (case aB => exact (by repeat (first | (with_reducible first | exact HB.out | apply bqA | apply bqN | apply bqD) | exact HB.out))); (case aF => exact (fun _ _ => trivial)); (case aO => exact (by (with_reducible repeat (first | apply Kd.R_alloc | apply Kd.R_drewN | apply Kd.R_drew)); exact HO_3.out)); (case aS => exact (below_size (by repeat (first | (with_reducible first | exact HB.out | apply bqA | apply bqN | apply bqD) | exact HB.out)))); (case aL => have := LMc16.out; omega); intro v102 w17 ho hb hg hat; rw [← Ny101.out] at ho; have n0_ := Aside0.mk (hb); have n1_ := Aside0.mk (ho); clear HB; clear HO_3; have HB := n0_; have HO103 := n1_; clear n0_ n1_; clear ho hb hg hat))
            go_ret
            exact ⟨_, by first | rfl | (simp [errW_none, errW_some] <;> rfl) | (simp [*, errW_none, errW_some] <;> rfl), Kd.R_lower (show Kd.R k66 66 _ w.heap.size (fun _ => True) _ _ from (by (with_reducible repeat (first | apply Kd.R_alloc | apply Kd.R_drewN | apply Kd.R_drew)); exact HO103.out)) hle.out, hall.out.trans ((show Below w.heap.size w _ from (by repeat (first | (with_reducible first | exact HB.out | apply bqA | apply bqN | apply bqD) | exact HB.out))).mono hle.out)⟩
          · rw [if_neg c16] at H
            exact absurd H (by simp)
        · replace c15 := Bool.eq_false_iff.mpr c15
          subst c15
          have H1 : (some x3_1) = some r := by rw [if_neg (show ¬ (false = true) by decide)] at H; exact H
          clear H
          have H := H1
          clear H1
          obtain rfl := Option.some.inj H
          go_wp2
          go_ret
          exact ⟨_, by first | rfl | (simp [errW_none, errW_some] <;> rfl) | (simp [*, errW_none, errW_some] <;> rfl), Kd.R_lower (show Kd.R k66 66 _ w.heap.size (fun _ => True) _ _ from (by (with_reducible repeat (first | apply Kd.R_alloc | apply Kd.R_drewN | apply Kd.R_drew)); exact HO_3.out)) hle.out, hall.out.trans ((show Below w.heap.size w _ from (by repeat (first | (with_reducible first | exact HB.out | apply bqA | apply bqN | apply bqD) | exact HB.out))).mono hle.out)⟩
def crit_steps.f (k : Nat) (a0 : ByteArray) : Option (List (S66)) := (value_Fold.f a0).bind fun t => if t.size ≤ 140737488351232 then crit_stepsB.f k (numsOf t) else none
theorem crit_steps.calls (k : Nat) (a0 : ByteArray) (r : List (S66)) (w : World) (h : crit_steps.f k a0 = some r) :
    Calls Tryz.prog 35 #[.string a0] w fun e w' => ∃ v0_ : Value, e = .returned (v0_) ∧ Kd.R k66 66 w' w.heap.size (fun _ => True) v0_ r ∧ Below w.heap.size w w' := by
  unfold crit_steps.f at h
  obtain ⟨t, hf, h⟩ := Option.bind_eq_some_iff.mp h
  split at h
  · rename_i ht
    exact crit_stepsB_walk k a0 t r w hf ht h
  · cases h
end Go.Proofs.YtngdggmlfoogcaaGreatDoor.Pr
end
section
namespace Go.Proofs.YtngdggmlfoogcaaGreatDoor.Pr
open Go.RowKit Go.Proofs.YtngdggmlfoogcaaGreatDoorW.PrintWords Go.Proofs.YtngdggmlfoogcaaGreatDoorW.PrintLast Go.Proofs.YtngdggmlfoogcaaGreatDoorW.PrintMore
attribute [local go_sem] max2_int min2_int max_two min_two max_three min_three max_four min_four   -- for this text's walks alone
set_option linter.unusedVariables false
set_option linter.unusedSimpArgs false
attribute [local go_sem high] eqA25
def foolscapref13_Like.f (k : Nat) (a0 : ByteArray) (a1 : ByteArray) : Option (Bool) := (foolscapref04_Fold.f a0).bind fun t331 => ((foolscapref04_Fold.f a1).bind fun t332 => ((foolscapref13_like.f k t331 t332).bind fun t333 => (some t333)))
set_option maxHeartbeats 8000000 in
set_option maxRecDepth 100000 in
theorem foolscapref13_Like.calls (k : Nat) (a0 : ByteArray) (a1 : ByteArray) (r : Bool) (w : World) (h : foolscapref13_Like.f k a0 a1 = some r) :
  Calls Tryz.prog 55 #[.string a0, .string a1] w fun e w' => e = .returned (.bool r) ∧ Below w.heap.size w w' := by
 have HB := Aside0.mk (Below.refl w.heap.size w)
 have H : ((foolscapref04_Fold.f a0).bind fun t331 => ((foolscapref04_Fold.f a1).bind fun t332 => ((foolscapref13_like.f k t331 t332).bind fun t333 => (some t333)))) = some r := h
 clear h
 replace H := Option.bind_eq_some_iff.mp H
 obtain ⟨t331, A30, H⟩ := H
 replace H : ((foolscapref04_Fold.f a1).bind fun t332 => ((foolscapref13_like.f k t331 t332).bind fun t333 => (some t333))) = some r := H
 have A3 := Aside0.mk A30
 clear A30
 replace H := Option.bind_eq_some_iff.mp H
 obtain ⟨t332, A40, H⟩ := H
 replace H : ((foolscapref13_like.f k t331 t332).bind fun t333 => (some t333)) = some r := H
 have A4 := Aside0.mk A40
 clear A40
 replace H := Option.bind_eq_some_iff.mp H
 obtain ⟨t333, A50, H⟩ := H
 replace H : (some t333) = some r := H
 have A5 := Aside0.mk A50
 clear A50
 obtain rfl := Option.some.inj H
 go_enter Tryz.func55, Tryz.ntmps55
 go_wp2_with (first | ((with_reducible refine gate_callee (f := 45) rfl ?_); refine goesL_ (some 6) rfl rfl Tryz.func45 (by kernel_rfl) rfl #[.string a0] rfl (by (try simp only [List.map_toArray, List.map_cons, List.map_nil]); first | done | rfl) ?_; (with_reducible refine (foolscapref04_Fold.calls a0 t331 _ A3.out).mono ?_); rintro e w6 ⟨rfl, hb⟩; refine ⟨_, rfl, ?_⟩; have n0_ := Aside0.mk (below_step (by repeat (first | (with_reducible first | exact HB.out | apply bqA | apply bqN | apply bqD) | exact HB.out)) hb); clear HB; have HB := n0_; clear n0_; (try clear hb); (try clear hb2); (try clear hk); (try clear hi)) | ((with_reducible refine gate_callee (f := 45) rfl ?_); refine goesL_ (some 8) rfl rfl Tryz.func45 (by kernel_rfl) rfl #[.string a1] rfl (by (try simp only [List.map_toArray, List.map_cons, List.map_nil]); first | done | rfl) ?_; (with_reducible refine (foolscapref04_Fold.calls a1 t332 _ A4.out).mono ?_); rintro e w7 ⟨rfl, hb⟩; refine ⟨_, rfl, ?_⟩; have n0_ := Aside0.mk (below_step (by repeat (first | (with_reducible first | exact HB.out | apply bqA | apply bqN | apply bqD) | exact HB.out)) hb); clear HB; have HB := n0_; clear n0_; (try clear hb); (try clear hb2); (try clear hk); (try clear hi)) | ((with_reducible refine gate_callee (f := 71) rfl ?_); refine goesL_ (some 9) rfl rfl Tryz.func71 (by kernel_rfl) rfl #[.string t331, .string t332] rfl (by (try simp only [List.map_toArray, List.map_cons, List.map_nil]); first | done | rfl) ?_; (with_reducible refine (foolscapref13_like.calls k t331 t332 t333 _ A5.out).mono ?_); rintro e w8 ⟨rfl, hb⟩; refine ⟨_, rfl, ?_⟩; have n0_ := Aside0.mk (below_step (by repeat (first | (with_reducible first | exact HB.out | apply bqA | apply bqN | apply bqD) | exact HB.out)) hb); clear HB; have HB := n0_; clear n0_; (try clear hb); (try clear hb2); (try clear hk); (try clear hi)))
 go_ret
 exact ⟨by first | rfl | (simp [errW_none, errW_some] <;> rfl) | (simp [*, errW_none, errW_some] <;> rfl), by repeat (first | (with_reducible first | exact HB.out | apply bqA | apply bqN | apply bqD) | exact HB.out)⟩
def foolscapref13_equal.f (k : Nat) (a0_0 : Int) (a0_1 : Int) (a0_2 : ByteArray) (a0_3 : Bool) (a0_4 : Int) (a1_0 : Int) (a1_1 : Int) (a1_2 : ByteArray) (a1_3 : Bool) (a1_4 : Int) : Option (Bool) := if a0_0 = a1_0 then (if a0_0 = 2 then ((foolscapref13_Like.f k a0_2 a1_2).bind fun t336 => (some t336)) else (some (a0_0 == a1_0 && (a0_1 == a1_1 && (a0_2.toList == a1_2.toList && (a0_3 == a1_3 && (a0_4 == a1_4))))))) else (some false)
set_option maxHeartbeats 8000000 in
set_option maxRecDepth 100000 in
theorem foolscapref13_equal.calls (k : Nat) (a0_0 : Int) (a0_1 : Int) (a0_2 : ByteArray) (a0_3 : Bool) (a0_4 : Int) (a1_0 : Int) (a1_1 : Int) (a1_2 : ByteArray) (a1_3 : Bool) (a1_4 : Int) (r : Bool) (w : World) (h : foolscapref13_equal.f k a0_0 a0_1 a0_2 a0_3 a0_4 a1_0 a1_1 a1_2 a1_3 a1_4 = some r) :
  Calls Tryz.prog 31 #[.agg #[.int .i64 a0_0, .int .i64 a0_1, .string a0_2, .bool a0_3, .int .i64 a0_4], .agg #[.int .i64 a1_0, .int .i64 a1_1, .string a1_2, .bool a1_3, .int .i64 a1_4]] w fun e w' => e = .returned (.bool r) ∧ Below w.heap.size w w' := by
 have hu25 := Tryz.underlying25
 have HB := Aside0.mk (Below.refl w.heap.size w)
 have H : (if a0_0 = a1_0 then (if a0_0 = 2 then ((foolscapref13_Like.f k a0_2 a1_2).bind fun t336 => (some t336)) else (some (a0_0 == a1_0 && (a0_1 == a1_1 && (a0_2.toList == a1_2.toList && (a0_3 == a1_3 && (a0_4 == a1_4))))))) else (some false)) = some r := h
 clear h
 by_cases c3 : a0_0 = a1_0
 ·rw [if_pos c3] at H
  have c3b0 : (a0_0 == a1_0) = true := beq_iff_eq.mpr c3
  have c3b1 : (a0_0 != a1_0) = false := bne_eq_false_iff_eq.mpr c3
  clear c3
  by_cases c4 : a0_0 = 2
  ·rw [if_pos c4] at H
   have c4b0 : (a0_0 == 2) = true := beq_iff_eq.mpr c4
   have c4b1 : (a0_0 != 2) = false := bne_eq_false_iff_eq.mpr c4
   clear c4
   replace H := Option.bind_eq_some_iff.mp H
   obtain ⟨t336, A50, H⟩ := H
   replace H : (some t336) = some r := H
   have A5 := Aside0.mk A50
   clear A50
   obtain rfl := Option.some.inj H
   go_enter Tryz.func31, Tryz.ntmps31
   go_wp2_with (first | ((with_reducible refine gate_dst (N := 2) rfl ?_); refine box_event ?hg (N := 2) ?hd (cs := #[.int .i64 a0_0, .int .i64 a0_1, .string a0_2, .bool a0_3, .int .i64 a0_4]) (t := 25) ?hr ?_; (case hd => rfl); (case hg => rfl); (case hr => first | (go_simp; done) | (go_simp; rfl)); intro gb334 hg w6 hbox hb; have n0_ := Aside0.mk (below_step (by repeat (first | (with_reducible first | exact HB.out | apply bqA | apply bqN | apply bqD) | exact HB.out)) hb); have n1_ := Aside0.mk (hbox); have n2_ := Aside0.mk ((by rw [hg]; exact (below_size (by repeat (first | (with_reducible first | exact HB.out | apply bqA | apply bqN | apply bqD) | exact HB.out))) : w.heap.size ≤ gb334)); have n3_ := Aside0.mk ((by rw [hg]; exact (below_size (by repeat (first | (with_reducible first | exact HB.out | apply bqA | apply bqN | apply bqD) | exact HB.out))) : w.heap.size ≤ gb334)); clear HB; have HB := n0_; have BK334 := n1_; have GW334 := n2_; have GE334 := n3_; clear n0_ n1_ n2_ n3_; clear hb hbox hg) | ((with_reducible refine gate_dst (N := 3) rfl ?_); refine box_event ?hg (N := 3) ?hd (cs := #[.int .i64 a1_0, .int .i64 a1_1, .string a1_2, .bool a1_3, .int .i64 a1_4]) (t := 25) ?hr ?_; (case hd => rfl); (case hg => rfl); (case hr => first | (go_simp; done) | (go_simp; rfl)); intro gb335 hg w7 hbox hb; have n0_ := Aside0.mk (blk_below (g := gb334) (o := .cells #[.int .i64 a0_0, .int .i64 a0_1, .string a0_2, .bool a0_3, .int .i64 a0_4] 25 (0, 0)) (by (with_reducible repeat (first | refine bqZ ?_ _ | refine bqY ?_ | refine bqX ?_ _)); exact BK334.out) hb); have n1_ := Aside0.mk (below_step (by repeat (first | (with_reducible first | exact HB.out | apply bqA | apply bqN | apply bqD | refine below_set ?_ GE334.out) | exact HB.out)) hb); have n2_ := Aside0.mk (hbox); have n3_ := Aside0.mk ((by rw [hg]; exact (below_size (by repeat (first | (with_reducible first | exact HB.out | apply bqA | apply bqN | apply bqD | refine below_set ?_ GE334.out) | exact HB.out))) : w.heap.size ≤ gb335)); have n4_ := n3_; have n5_ := Aside0.mk ((by rw [hg]; exact Nat.ne_of_lt (blk_lt (g := gb334) (o := .cells #[.int .i64 a0_0, .int .i64 a0_1, .string a0_2, .bool a0_3, .int .i64 a0_4] 25 (0, 0)) (by (with_reducible repeat (first | refine bqZ ?_ _ | refine bqY ?_ | refine bqX ?_ _)); exact BK334.out)) : gb334 ≠ gb335)); have n6_ := Aside0.mk n5_.out.symm; clear BK334; clear HB; have BK334 := n0_; have HB := n1_; have BK335 := n2_; have GW335 := n3_; have GE335 := n4_; have NB334_335 := n5_; have NB335_334 := n6_; clear n0_ n1_ n2_ n3_ n4_ n5_ n6_; clear hb hbox hg; have hnb8 := NB334_335.out; have hnc8 := NB335_334.out; obtain ⟨hcz9_0, hcz9_1, hcz9_2, hcz9_3, hcz9_4⟩ := cellsA_five BK334.out; obtain ⟨hfz9_0, hfz9_1, hfz9_2, hfz9_3, hfz9_4⟩ := frozA_five BK334.out; obtain ⟨hcz10_0, hcz10_1, hcz10_2, hcz10_3, hcz10_4⟩ := cellsA_five BK335.out; obtain ⟨hfz10_0, hfz10_1, hfz10_2, hfz10_3, hfz10_4⟩ := frozA_five BK335.out) | ((with_reducible refine gate_callee (f := 55) rfl ?_); refine goesL_ (some 17) rfl rfl Tryz.func55 (by kernel_rfl) rfl #[.string a0_2, .string a1_2] rfl (by (try simp only [List.map_toArray, List.map_cons, List.map_nil]); first | done | rfl) ?_; (with_reducible refine (foolscapref13_Like.calls k a0_2 a1_2 t336 _ A5.out).mono ?_); rintro e w11 ⟨rfl, hb⟩; refine ⟨_, rfl, ?_⟩; have n0_ := Aside0.mk (blk_below (g := gb334) (o := .cells #[.int .i64 a0_0, .int .i64 a0_1, .string a0_2, .bool a0_3, .int .i64 a0_4] 25 (0, 0)) (by (with_reducible repeat (first | refine bqZ ?_ _ | refine bqY ?_ | refine bqX ?_ _)); exact BK334.out) hb); have n1_ := Aside0.mk (blk_below (g := gb335) (o := .cells #[.int .i64 a1_0, .int .i64 a1_1, .string a1_2, .bool a1_3, .int .i64 a1_4] 25 (0, 0)) (by (with_reducible repeat (first | refine bqZ ?_ _ | refine bqY ?_ | refine bqX ?_ _)); exact BK335.out) hb); have n2_ := Aside0.mk (below_step (by repeat (first | (with_reducible first | exact HB.out | apply bqA | apply bqN | apply bqD | refine below_set ?_ GE334.out | refine below_set ?_ GE335.out) | exact HB.out)) hb); clear BK334; clear BK335; clear HB; have BK334 := n0_; have BK335 := n1_; have HB := n2_; clear n0_ n1_ n2_; (try clear hb); (try clear hb2); (try clear hk); (try clear hi)))
   go_ret
   exact ⟨by first | rfl | (simp [errW_none, errW_some] <;> rfl) | (simp [*, errW_none, errW_some] <;> rfl), by repeat (first | (with_reducible first | exact HB.out | apply bqA | apply bqN | apply bqD | refine below_set ?_ GE334.out | refine below_set ?_ GE335.out) | exact HB.out)⟩
  ·rw [if_neg c4] at H
   have c4b0 : (a0_0 == 2) = false := beq_eq_false_iff_ne.mpr c4
   have c4b1 : (a0_0 != 2) = true := bne_iff_ne.mpr c4
   obtain rfl := Option.some.inj H
   go_enter Tryz.func31, Tryz.ntmps31
   go_wp2_with (first | ((with_reducible refine gate_dst (N := 2) rfl ?_); refine box_event ?hg (N := 2) ?hd (cs := #[.int .i64 a0_0, .int .i64 a0_1, .string a0_2, .bool a0_3, .int .i64 a0_4]) (t := 25) ?hr ?_; (case hd => rfl); (case hg => rfl); (case hr => first | (go_simp; done) | (go_simp; rfl)); intro gb334 hg w12 hbox hb; have n0_ := Aside0.mk (below_step (by repeat (first | (with_reducible first | exact HB.out | apply bqA | apply bqN | apply bqD) | exact HB.out)) hb); have n1_ := Aside0.mk (hbox); have n2_ := Aside0.mk ((by rw [hg]; exact (below_size (by repeat (first | (with_reducible first | exact HB.out | apply bqA | apply bqN | apply bqD) | exact HB.out))) : w.heap.size ≤ gb334)); have n3_ := Aside0.mk ((by rw [hg]; exact (below_size (by repeat (first | (with_reducible first | exact HB.out | apply bqA | apply bqN | apply bqD) | exact HB.out))) : w.heap.size ≤ gb334)); clear HB; have HB := n0_; have BK334 := n1_; have GW334 := n2_; have GE334 := n3_; clear n0_ n1_ n2_ n3_; clear hb hbox hg) | ((with_reducible refine gate_dst (N := 3) rfl ?_); refine box_event ?hg (N := 3) ?hd (cs := #[.int .i64 a1_0, .int .i64 a1_1, .string a1_2, .bool a1_3, .int .i64 a1_4]) (t := 25) ?hr ?_; (case hd => rfl); (case hg => rfl); (case hr => first | (go_simp; done) | (go_simp; rfl)); intro gb335 hg w13 hbox hb; have n0_ := Aside0.mk (blk_below (g := gb334) (o := .cells #[.int .i64 a0_0, .int .i64 a0_1, .string a0_2, .bool a0_3, .int .i64 a0_4] 25 (0, 0)) (by (with_reducible repeat (first | refine bqZ ?_ _ | refine bqY ?_ | refine bqX ?_ _)); exact BK334.out) hb); have n1_ := Aside0.mk (below_step (by repeat (first | (with_reducible first | exact HB.out | apply bqA | apply bqN | apply bqD | refine below_set ?_ GE334.out) | exact HB.out)) hb); have n2_ := Aside0.mk (hbox); have n3_ := Aside0.mk ((by rw [hg]; exact (below_size (by repeat (first | (with_reducible first | exact HB.out | apply bqA | apply bqN | apply bqD | refine below_set ?_ GE334.out) | exact HB.out))) : w.heap.size ≤ gb335)); have n4_ := n3_; have n5_ := Aside0.mk ((by rw [hg]; exact Nat.ne_of_lt (blk_lt (g := gb334) (o := .cells #[.int .i64 a0_0, .int .i64 a0_1, .string a0_2, .bool a0_3, .int .i64 a0_4] 25 (0, 0)) (by (with_reducible repeat (first | refine bqZ ?_ _ | refine bqY ?_ | refine bqX ?_ _)); exact BK334.out)) : gb334 ≠ gb335)); have n6_ := Aside0.mk n5_.out.symm; clear BK334; clear HB; have BK334 := n0_; have HB := n1_; have BK335 := n2_; have GW335 := n3_; have GE335 := n4_; have NB334_335 := n5_; have NB335_334 := n6_; clear n0_ n1_ n2_ n3_ n4_ n5_ n6_; clear hb hbox hg; have hnb14 := NB334_335.out; have hnc14 := NB335_334.out; obtain ⟨hcz15_0, hcz15_1, hcz15_2, hcz15_3, hcz15_4⟩ := cellsA_five BK334.out; obtain ⟨hfz15_0, hfz15_1, hfz15_2, hfz15_3, hfz15_4⟩ := frozA_five BK334.out; obtain ⟨hcz16_0, hcz16_1, hcz16_2, hcz16_3, hcz16_4⟩ := cellsA_five BK335.out; obtain ⟨hfz16_0, hfz16_1, hfz16_2, hfz16_3, hfz16_4⟩ := frozA_five BK335.out))
   go_ret
   exact ⟨by first | rfl | (simp [errW_none, errW_some] <;> rfl) | (simp [*, errW_none, errW_some] <;> rfl), by repeat (first | (with_reducible first | exact HB.out | apply bqA | apply bqN | apply bqD | refine below_set ?_ GE334.out | refine below_set ?_ GE335.out) | exact HB.out)⟩
 ·rw [if_neg c3] at H
  have c3b0 : (a0_0 == a1_0) = false := beq_eq_false_iff_ne.mpr c3
  have c3b1 : (a0_0 != a1_0) = true := bne_iff_ne.mpr c3
  obtain rfl := Option.some.inj H
  go_enter Tryz.func31, Tryz.ntmps31
  go_wp2_with (first | ((with_reducible refine gate_dst (N := 2) rfl ?_); refine box_event ?hg (N := 2) ?hd (cs := #[.int .i64 a0_0, .int .i64 a0_1, .string a0_2, .bool a0_3, .int .i64 a0_4]) (t := 25) ?hr ?_; (case hd => rfl); (case hg => rfl); (case hr => first | (go_simp; done) | (go_simp; rfl)); intro gb334 hg w17 hbox hb; have n0_ := Aside0.mk (below_step (by repeat (first | (with_reducible first | exact HB.out | apply bqA | apply bqN | apply bqD) | exact HB.out)) hb); have n1_ := Aside0.mk (hbox); have n2_ := Aside0.mk ((by rw [hg]; exact (below_size (by repeat (first | (with_reducible first | exact HB.out | apply bqA | apply bqN | apply bqD) | exact HB.out))) : w.heap.size ≤ gb334)); have n3_ := Aside0.mk ((by rw [hg]; exact (below_size (by repeat (first | (with_reducible first | exact HB.out | apply bqA | apply bqN | apply bqD) | exact HB.out))) : w.heap.size ≤ gb334)); clear HB; have HB := n0_; have BK334 := n1_; have GW334 := n2_; have GE334 := n3_; clear n0_ n1_ n2_ n3_; clear hb hbox hg) | ((with_reducible refine gate_dst (N := 3) rfl ?_); refine box_event ?hg (N := 3) ?hd (cs := #[.int .i64 a1_0, .int .i64 a1_1, .string a1_2, .bool a1_3, .int .i64 a1_4]) (t := 25) ?hr ?_; (case hd => rfl); (case hg => rfl); (case hr => first | (go_simp; done) | (go_simp; rfl)); intro gb335 hg w18 hbox hb; have n0_ := Aside0.mk (blk_below (g := gb334) (o := .cells #[.int .i64 a0_0, .int .i64 a0_1, .string a0_2, .bool a0_3, .int .i64 a0_4] 25 (0, 0)) (by (with_reducible repeat (first | refine bqZ ?_ _ | refine bqY ?_ | refine bqX ?_ _)); exact BK334.out) hb); have n1_ := Aside0.mk (below_step (by repeat (first | (with_reducible first | exact HB.out | apply bqA | apply bqN | apply bqD | refine below_set ?_ GE334.out) | exact HB.out)) hb); have n2_ := Aside0.mk (hbox); have n3_ := Aside0.mk ((by rw [hg]; exact (below_size (by repeat (first | (with_reducible first | exact HB.out | apply bqA | apply bqN | apply bqD | refine below_set ?_ GE334.out) | exact HB.out))) : w.heap.size ≤ gb335)); have n4_ := n3_; have n5_ := Aside0.mk ((by rw [hg]; exact Nat.ne_of_lt (blk_lt (g := gb334) (o := .cells #[.int .i64 a0_0, .int .i64 a0_1, .string a0_2, .bool a0_3, .int .i64 a0_4] 25 (0, 0)) (by (with_reducible repeat (first | refine bqZ ?_ _ | refine bqY ?_ | refine bqX ?_ _)); exact BK334.out)) : gb334 ≠ gb335)); have n6_ := Aside0.mk n5_.out.symm; clear BK334; clear HB; have BK334 := n0_; have HB := n1_; have BK335 := n2_; have GW335 := n3_; have GE335 := n4_; have NB334_335 := n5_; have NB335_334 := n6_; clear n0_ n1_ n2_ n3_ n4_ n5_ n6_; clear hb hbox hg; have hnb19 := NB334_335.out; have hnc19 := NB335_334.out; obtain ⟨hcz20_0, hcz20_1, hcz20_2, hcz20_3, hcz20_4⟩ := cellsA_five BK334.out; obtain ⟨hfz20_0, hfz20_1, hfz20_2, hfz20_3, hfz20_4⟩ := frozA_five BK334.out; obtain ⟨hcz21_0, hcz21_1, hcz21_2, hcz21_3, hcz21_4⟩ := cellsA_five BK335.out; obtain ⟨hfz21_0, hfz21_1, hfz21_2, hfz21_3, hfz21_4⟩ := frozA_five BK335.out))
  go_ret
  exact ⟨by first | rfl | (simp [errW_none, errW_some] <;> rfl) | (simp [*, errW_none, errW_some] <;> rfl), by repeat (first | (with_reducible first | exact HB.out | apply bqA | apply bqN | apply bqD | refine below_set ?_ GE334.out | refine below_set ?_ GE335.out) | exact HB.out)⟩
def foolscapref04_as.f (a0_0 : Int) (a0_1 : Int) (a0_2 : ByteArray) (a0_3 : Bool) (a0_4 : Int) (a1 : Int) : Option (Int × Int × ByteArray × Bool × Int) := if a0_0 = 0 then (some (a1, a0_1, a0_2, a0_3, a0_4)) else (some (a0_0, a0_1, a0_2, a0_3, a0_4))
set_option maxHeartbeats 8000000 in
set_option maxRecDepth 100000 in
theorem foolscapref04_as.calls (a0_0 : Int) (a0_1 : Int) (a0_2 : ByteArray) (a0_3 : Bool) (a0_4 : Int) (a1 : Int) (r1 : Int) (r2 : Int) (r3 : ByteArray) (r4 : Bool) (r5 : Int) (w : World) (h : foolscapref04_as.f a0_0 a0_1 a0_2 a0_3 a0_4 a1 = some (r1, r2, r3, r4, r5)) :
  Calls Tryz.prog 56 #[.agg #[.int .i64 a0_0, .int .i64 a0_1, .string a0_2, .bool a0_3, .int .i64 a0_4], .int .i64 a1] w fun e w' => e = .returned (.agg #[.int .i64 r1, .int .i64 r2, .string r3, .bool r4, .int .i64 r5]) ∧ Below w.heap.size w w' := by
 have hu25 := Tryz.underlying25
 have HB := Aside0.mk (Below.refl w.heap.size w)
 have H : (if a0_0 = 0 then (some (a1, a0_1, a0_2, a0_3, a0_4)) else (some (a0_0, a0_1, a0_2, a0_3, a0_4))) = some (r1, r2, r3, r4, r5) := h
 clear h
 by_cases c3 : a0_0 = 0
 ·rw [if_pos c3] at H
  have c3b0 : (a0_0 == 0) = true := beq_iff_eq.mpr c3
  have c3b1 : (a0_0 != 0) = false := bne_eq_false_iff_eq.mpr c3
  clear c3
  simp only [Option.some.injEq, Prod.mk.injEq] at H
  obtain ⟨rfl, rfl, rfl, rfl, rfl⟩ := H
  go_enter Tryz.func56, Tryz.ntmps56
  go_wp2_with (first | ((with_reducible refine gate_dst (N := 2) rfl ?_); refine box_event ?hg (N := 2) ?hd (cs := #[.int .i64 a0_0, .int .i64 a0_1, .string a0_2, .bool a0_3, .int .i64 a0_4]) (t := 25) ?hr ?_; (case hd => rfl); (case hg => rfl); (case hr => first | (go_simp; done) | (go_simp; rfl)); intro gb337 hg w4 hbox hb; have n0_ := Aside0.mk (below_step (by repeat (first | (with_reducible first | exact HB.out | apply bqA | apply bqN | apply bqD) | exact HB.out)) hb); have n1_ := Aside0.mk (hbox); have n2_ := Aside0.mk ((by rw [hg]; exact (below_size (by repeat (first | (with_reducible first | exact HB.out | apply bqA | apply bqN | apply bqD) | exact HB.out))) : w.heap.size ≤ gb337)); have n3_ := Aside0.mk ((by rw [hg]; exact (below_size (by repeat (first | (with_reducible first | exact HB.out | apply bqA | apply bqN | apply bqD) | exact HB.out))) : w.heap.size ≤ gb337)); clear HB; have HB := n0_; have BK337 := n1_; have GW337 := n2_; have GE337 := n3_; clear n0_ n1_ n2_ n3_; clear hb hbox hg) | ((with_reducible refine gate_dst (N := 4) rfl ?_); refine box_event ?hg (N := 4) ?hd (cs := #[.int .i64 0, .int .i64 0, .string (⟨#[]⟩ : ByteArray), .bool false, .int .i64 0]) (t := 25) ?hr ?_; (case hd => rfl); (case hg => rfl); (case hr => first | (go_simp; done) | (go_simp; rfl)); intro gb338 hg w5 hbox hb; have n0_ := Aside0.mk (blk_below (g := gb337) (o := .cells #[.int .i64 a0_0, .int .i64 a0_1, .string a0_2, .bool a0_3, .int .i64 a0_4] 25 (0, 0)) (by (with_reducible repeat (first | refine bqZ ?_ _ | refine bqY ?_ | refine bqX ?_ _)); exact BK337.out) hb); have n1_ := Aside0.mk (below_step (by repeat (first | (with_reducible first | exact HB.out | apply bqA | apply bqN | apply bqD | refine below_set ?_ GE337.out) | exact HB.out)) hb); have n2_ := Aside0.mk (hbox); have n3_ := Aside0.mk ((by rw [hg]; exact (below_size (by repeat (first | (with_reducible first | exact HB.out | apply bqA | apply bqN | apply bqD | refine below_set ?_ GE337.out) | exact HB.out))) : w.heap.size ≤ gb338)); have n4_ := n3_; have n5_ := Aside0.mk ((by rw [hg]; exact Nat.ne_of_lt (blk_lt (g := gb337) (o := .cells #[.int .i64 a0_0, .int .i64 a0_1, .string a0_2, .bool a0_3, .int .i64 a0_4] 25 (0, 0)) (by (with_reducible repeat (first | refine bqZ ?_ _ | refine bqY ?_ | refine bqX ?_ _)); exact BK337.out)) : gb337 ≠ gb338)); have n6_ := Aside0.mk n5_.out.symm; clear BK337; clear HB; have BK337 := n0_; have HB := n1_; have BK338 := n2_; have GW338 := n3_; have GE338 := n4_; have NB337_338 := n5_; have NB338_337 := n6_; clear n0_ n1_ n2_ n3_ n4_ n5_ n6_; clear hb hbox hg; have hnb6 := NB337_338.out; have hnc6 := NB338_337.out; obtain ⟨hcz7_0, hcz7_1, hcz7_2, hcz7_3, hcz7_4⟩ := cellsA_five BK337.out; obtain ⟨hfz7_0, hfz7_1, hfz7_2, hfz7_3, hfz7_4⟩ := frozA_five BK337.out; obtain ⟨hcz8_0, hcz8_1, hcz8_2, hcz8_3, hcz8_4⟩ := cellsA_five BK338.out; obtain ⟨hfz8_0, hfz8_1, hfz8_2, hfz8_3, hfz8_4⟩ := frozA_five BK338.out))
  refine bodyPost_ret (results_cell_row rfl _ _ gb338 25 #[.int .i64 a1, .int .i64 a0_1, .string a0_2, .bool a0_3, .int .i64 a0_4] (0, 0) _ rfl (by (with_reducible repeat (first | refine bqZ ?_ _ | refine bqY ?_ | refine bqX ?_ _)); refine blk_put (cs := #[.int .i64 a1, .int .i64 a0_1, .string a0_2, .bool a0_3, .int .i64 0]) ?_ 4 _ rfl; (with_reducible repeat (first | refine bqZ ?_ _ | refine bqY ?_ | refine bqX ?_ _)); refine blk_put (cs := #[.int .i64 a1, .int .i64 a0_1, .string a0_2, .bool false, .int .i64 0]) ?_ 3 _ rfl; (with_reducible repeat (first | refine bqZ ?_ _ | refine bqY ?_ | refine bqX ?_ _)); refine blk_put (cs := #[.int .i64 a1, .int .i64 a0_1, .string (⟨#[]⟩ : ByteArray), .bool false, .int .i64 0]) ?_ 2 _ rfl; (with_reducible repeat (first | refine bqZ ?_ _ | refine bqY ?_ | refine bqX ?_ _)); refine blk_put (cs := #[.int .i64 a1, .int .i64 0, .string (⟨#[]⟩ : ByteArray), .bool false, .int .i64 0]) ?_ 1 _ rfl; (with_reducible repeat (first | refine bqZ ?_ _ | refine bqY ?_ | refine bqX ?_ _)); refine blk_put (cs := #[.int .i64 0, .int .i64 0, .string (⟨#[]⟩ : ByteArray), .bool false, .int .i64 0]) ?_ 0 _ rfl; (with_reducible repeat (first | refine bqZ ?_ _ | refine bqY ?_ | refine bqX ?_ _)); refine blk_far ?_ NB338_337.out _; (with_reducible repeat (first | refine bqZ ?_ _ | refine bqY ?_ | refine bqX ?_ _)); exact BK338.out) Tryz.underlying25 rfl (by kernel_rfl)) rfl ?_
  exact ⟨by first | rfl | (simp [errW_none, errW_some] <;> rfl) | (simp [*, errW_none, errW_some] <;> rfl), by repeat (first | (with_reducible first | exact HB.out | apply bqA | apply bqN | apply bqD | refine below_set ?_ GE337.out | refine below_set ?_ GE338.out) | exact HB.out)⟩
 ·rw [if_neg c3] at H
  have c3b0 : (a0_0 == 0) = false := beq_eq_false_iff_ne.mpr c3
  have c3b1 : (a0_0 != 0) = true := bne_iff_ne.mpr c3
  simp only [Option.some.injEq, Prod.mk.injEq] at H
  obtain ⟨rfl, rfl, rfl, rfl, rfl⟩ := H
  go_enter Tryz.func56, Tryz.ntmps56
  go_wp2_with (first | ((with_reducible refine gate_dst (N := 2) rfl ?_); refine box_event ?hg (N := 2) ?hd (cs := #[.int .i64 a0_0, .int .i64 a0_1, .string a0_2, .bool a0_3, .int .i64 a0_4]) (t := 25) ?hr ?_; (case hd => rfl); (case hg => rfl); (case hr => first | (go_simp; done) | (go_simp; rfl)); intro gb337 hg w9 hbox hb; have n0_ := Aside0.mk (below_step (by repeat (first | (with_reducible first | exact HB.out | apply bqA | apply bqN | apply bqD) | exact HB.out)) hb); have n1_ := Aside0.mk (hbox); have n2_ := Aside0.mk ((by rw [hg]; exact (below_size (by repeat (first | (with_reducible first | exact HB.out | apply bqA | apply bqN | apply bqD) | exact HB.out))) : w.heap.size ≤ gb337)); have n3_ := Aside0.mk ((by rw [hg]; exact (below_size (by repeat (first | (with_reducible first | exact HB.out | apply bqA | apply bqN | apply bqD) | exact HB.out))) : w.heap.size ≤ gb337)); clear HB; have HB := n0_; have BK337 := n1_; have GW337 := n2_; have GE337 := n3_; clear n0_ n1_ n2_ n3_; clear hb hbox hg) | ((with_reducible refine gate_dst (N := 4) rfl ?_); refine box_event ?hg (N := 4) ?hd (cs := #[.int .i64 0, .int .i64 0, .string (⟨#[]⟩ : ByteArray), .bool false, .int .i64 0]) (t := 25) ?hr ?_; (case hd => rfl); (case hg => rfl); (case hr => first | (go_simp; done) | (go_simp; rfl)); intro gb338 hg w10 hbox hb; have n0_ := Aside0.mk (blk_below (g := gb337) (o := .cells #[.int .i64 a0_0, .int .i64 a0_1, .string a0_2, .bool a0_3, .int .i64 a0_4] 25 (0, 0)) (by (with_reducible repeat (first | refine bqZ ?_ _ | refine bqY ?_ | refine bqX ?_ _)); exact BK337.out) hb); have n1_ := Aside0.mk (below_step (by repeat (first | (with_reducible first | exact HB.out | apply bqA | apply bqN | apply bqD | refine below_set ?_ GE337.out) | exact HB.out)) hb); have n2_ := Aside0.mk (hbox); have n3_ := Aside0.mk ((by rw [hg]; exact (below_size (by repeat (first | (with_reducible first | exact HB.out | apply bqA | apply bqN | apply bqD | refine below_set ?_ GE337.out) | exact HB.out))) : w.heap.size ≤ gb338)); have n4_ := n3_; have n5_ := Aside0.mk ((by rw [hg]; exact Nat.ne_of_lt (blk_lt (g := gb337) (o := .cells #[.int .i64 a0_0, .int .i64 a0_1, .string a0_2, .bool a0_3, .int .i64 a0_4] 25 (0, 0)) (by (with_reducible repeat (first | refine bqZ ?_ _ | refine bqY ?_ | refine bqX ?_ _)); exact BK337.out)) : gb337 ≠ gb338)); have n6_ := Aside0.mk n5_.out.symm; clear BK337; clear HB; have BK337 := n0_; have HB := n1_; have BK338 := n2_; have GW338 := n3_; have GE338 := n4_; have NB337_338 := n5_; have NB338_337 := n6_; clear n0_ n1_ n2_ n3_ n4_ n5_ n6_; clear hb hbox hg; have hnb11 := NB337_338.out; have hnc11 := NB338_337.out; obtain ⟨hcz12_0, hcz12_1, hcz12_2, hcz12_3, hcz12_4⟩ := cellsA_five BK337.out; obtain ⟨hfz12_0, hfz12_1, hfz12_2, hfz12_3, hfz12_4⟩ := frozA_five BK337.out; obtain ⟨hcz13_0, hcz13_1, hcz13_2, hcz13_3, hcz13_4⟩ := cellsA_five BK338.out; obtain ⟨hfz13_0, hfz13_1, hfz13_2, hfz13_3, hfz13_4⟩ := frozA_five BK338.out))
  refine bodyPost_ret (results_cell_row rfl _ _ gb338 25 #[.int .i64 a0_0, .int .i64 a0_1, .string a0_2, .bool a0_3, .int .i64 a0_4] (0, 0) _ rfl (by (with_reducible repeat (first | refine bqZ ?_ _ | refine bqY ?_ | refine bqX ?_ _)); refine blk_put (cs := #[.int .i64 a0_0, .int .i64 a0_1, .string a0_2, .bool a0_3, .int .i64 0]) ?_ 4 _ rfl; (with_reducible repeat (first | refine bqZ ?_ _ | refine bqY ?_ | refine bqX ?_ _)); refine blk_put (cs := #[.int .i64 a0_0, .int .i64 a0_1, .string a0_2, .bool false, .int .i64 0]) ?_ 3 _ rfl; (with_reducible repeat (first | refine bqZ ?_ _ | refine bqY ?_ | refine bqX ?_ _)); refine blk_put (cs := #[.int .i64 a0_0, .int .i64 a0_1, .string (⟨#[]⟩ : ByteArray), .bool false, .int .i64 0]) ?_ 2 _ rfl; (with_reducible repeat (first | refine bqZ ?_ _ | refine bqY ?_ | refine bqX ?_ _)); refine blk_put (cs := #[.int .i64 a0_0, .int .i64 0, .string (⟨#[]⟩ : ByteArray), .bool false, .int .i64 0]) ?_ 1 _ rfl; (with_reducible repeat (first | refine bqZ ?_ _ | refine bqY ?_ | refine bqX ?_ _)); refine blk_put (cs := #[.int .i64 0, .int .i64 0, .string (⟨#[]⟩ : ByteArray), .bool false, .int .i64 0]) ?_ 0 _ rfl; (with_reducible repeat (first | refine bqZ ?_ _ | refine bqY ?_ | refine bqX ?_ _)); exact BK338.out) Tryz.underlying25 rfl (by kernel_rfl)) rfl ?_
  exact ⟨by first | rfl | (simp [errW_none, errW_some] <;> rfl) | (simp [*, errW_none, errW_some] <;> rfl), by repeat (first | (with_reducible first | exact HB.out | apply bqA | apply bqN | apply bqD | refine below_set ?_ GE337.out | refine below_set ?_ GE338.out) | exact HB.out)⟩
def foolscapref04_sign.f (a0 : Bool) (a1 : Bool) : Option (Int) := if a0 = true then (some (-1)) else (if a1 = true then (some 1) else (some 0))
set_option maxHeartbeats 8000000 in
set_option maxRecDepth 100000 in
theorem foolscapref04_sign.calls (a0 : Bool) (a1 : Bool) (r : Int) (w : World) (h : foolscapref04_sign.f a0 a1 = some r) :
  Calls Tryz.prog 57 #[.bool a0, .bool a1] w fun e w' => e = .returned (.int .i64 r) ∧ Drawn0 w w' := by
 have H : (if a0 = true then (some (-1)) else (if a1 = true then (some 1) else (some 0))) = some r := h
 clear h
 by_cases c3 : a0 = true
 ·subst c3
  have H1 : (some (-1)) = some r := by rw [if_pos rfl] at H; exact H
  clear H
  have H := H1
  clear H1
  obtain rfl := Option.some.inj H
  go_enter Tryz.func57, Tryz.ntmps57
  go_wp2
  go_ret
  exact ⟨by first | rfl | (simp; done) | (simp [*]; done), by repeat (first | exact Drawn0.refl _ | apply Drawn0.step)⟩
 ·replace c3 := Bool.eq_false_iff.mpr c3
  subst c3
  have H1 : (if a1 = true then (some 1) else (some 0)) = some r := by rw [if_neg (show ¬ (false = true) by decide)] at H; exact H
  clear H
  have H := H1
  clear H1
  by_cases c4 : a1 = true
  ·subst c4
   have H1 : (some 1) = some r := by rw [if_pos rfl] at H; exact H
   clear H
   have H := H1
   clear H1
   obtain rfl := Option.some.inj H
   go_enter Tryz.func57, Tryz.ntmps57
   go_wp2
   go_ret
   exact ⟨by first | rfl | (simp; done) | (simp [*]; done), by repeat (first | exact Drawn0.refl _ | apply Drawn0.step)⟩
  ·replace c4 := Bool.eq_false_iff.mpr c4
   subst c4
   have H1 : (some 0) = some r := by rw [if_neg (show ¬ (false = true) by decide)] at H; exact H
   clear H
   have H := H1
   clear H1
   obtain rfl := Option.some.inj H
   go_enter Tryz.func57, Tryz.ntmps57
   go_wp2
   go_ret
   exact ⟨by first | rfl | (simp; done) | (simp [*]; done), by repeat (first | exact Drawn0.refl _ | apply Drawn0.step)⟩
mutual
def foolscapref04_Bytes.l0 : Nat → ByteArray → ByteArray → Int → Option (Int)
 | 0, _, _, _ => none
 | k + 1, x0, x1, x5 => if x5 < (x0.size : Int) then (foolscapref04_Bytes.j1 k x0 x1 x5 (decide (x5 < (x1.size : Int)))) else (foolscapref04_Bytes.j1 k x0 x1 x5 false)
def foolscapref04_Bytes.j1 : Nat → ByteArray → ByteArray → Int → Bool → Option (Int)
 | 0, _, _, _, _ => none
 | k + 1, x0, x1, x5, x15 => if x15 = true then (if 0 ≤ x5 then (if x5 < (x0.size : Int) then (if x5 < (x1.size : Int) then (if (bt x0 x5) = (bt x1 x5) then (foolscapref04_Bytes.l0 k x0 x1 (wrap64 (x5 + 1))) else ((foolscapref04_sign.f (decide ((bt x0 x5) < (bt x1 x5))) (decide ((bt x0 x5) > (bt x1 x5)))).bind fun t339 => (some t339))) else (none)) else (none)) else (none)) else ((foolscapref04_sign.f (decide ((x0.size : Int) < (x1.size : Int))) (decide ((x0.size : Int) > (x1.size : Int)))).bind fun t340 => (some t340))
end
def foolscapref04_Bytes.f (k : Nat) (a0 : ByteArray) (a1 : ByteArray) : Option (Int) := foolscapref04_Bytes.l0 k a0 a1 0
set_option maxHeartbeats 8000000 in
set_option maxRecDepth 100000 in
theorem foolscapref04_Bytes.calls (k : Nat) (a0 : ByteArray) (a1 : ByteArray) (r : Int) (w : World) (h : foolscapref04_Bytes.f k a0 a1 = some r) :
  Calls Tryz.prog 58 #[.string a0, .string a1] w fun e w' => e = .returned (.int .i64 r) ∧ Drawn0 w w' := by
 have H : (foolscapref04_Bytes.l0 k a0 a1 0) = some r := h
 clear h
 have H' := Aside0.mk H
 clear H
 go_enter Tryz.func58, Tryz.ntmps58
 go_wp2
 repeat (go_quiet (fail); try go_wp2)
 go_loopg [5] k (fun kq v5 w' => ∃ (x5_1 : Int), v5 = .int .i64 x5_1 ∧ Aside0 (foolscapref04_Bytes.l0 kq a0 a1 x5_1 = some r) ∧ Aside0 (kq ≤ k) ∧ Drawn0 w w')
 case atStart => exact ⟨(0), (by first | rfl | (simp; done) | (simp [*]; done)), H', ⟨Nat.le_refl _⟩, by repeat (first | exact Drawn0.refl _ | apply Drawn0.step)⟩
 case round =>
  clear H'
  try clear p2
  obtain ⟨x5_1, rfl, HA, HK1, ⟨m1, rfl⟩⟩ := hrel
  cases gk with
  | zero => exact absurd HA.out (by simp [foolscapref04_Bytes.l0])
  | succ k1 =>
   have H := HA.out
   clear HA
   simp only [foolscapref04_Bytes.l0] at H
   have HC3 := Aside0.mk H
   clear H
   go_upto_region 2 with (fail)
   repeat (go_quiet (fail); go_upto_region 2 with (fail))
   go_cut [15] (fun v15 wc => ∃ (kq : Nat) (x15_2 : Bool), v15 = .bool x15_2 ∧ Aside0 (foolscapref04_Bytes.j1 kq a0 a1 x5_1 x15_2 = some r) ∧ Aside0 (kq ≤ k1) ∧ Drawn0 w wc)
   case first =>
    have H := HC3.out
    clear HC3
    by_cases c4 : x5_1 < (a0.size : Int)
    ·rw [if_pos c4] at H
     have c4b0 : decide (x5_1 < (a0.size : Int)) = true := decide_eq_true c4
     clear c4
     (first | rw [c4b0] | (simp only [i64_w, i32_w]; rw [c4b0]) | skip)
     have H' := Aside0.mk H
     clear H
     go_wp2
     repeat (go_quiet (fail); try go_wp2)
     go_meet
     case rel => exact ⟨_, (decide (x5_1 < (a1.size : Int))), (by first | rfl | (simp; done) | (simp [*]; done)), H', ⟨by have := HK1.out; first | omega | exact Nat.le_refl _⟩, by repeat (first | exact Drawn0.refl _ | apply Drawn0.step)⟩
    ·rw [if_neg c4] at H
     have c4b0 : decide (x5_1 < (a0.size : Int)) = false := decide_eq_false c4
     clear c4
     (first | rw [c4b0] | (simp only [i64_w, i32_w]; rw [c4b0]) | skip)
     have H' := Aside0.mk H
     clear H
     go_wp2
     repeat (go_quiet (fail); try go_wp2)
     go_meet
     case rel => exact ⟨_, (false), (by first | rfl | (simp; done) | (simp [*]; done)), H', ⟨by have := HK1.out; first | omega | exact Nat.le_refl _⟩, by repeat (first | exact Drawn0.refl _ | apply Drawn0.step)⟩
   case rest =>
    clear HC3
    try clear p2
    try clear c4
    try clear c4b0
    try clear p2
    obtain ⟨kq, x15_2, rfl, HA, HJ2, ⟨mc2, rfl⟩⟩ := hcut
    cases kq with
    | zero => exact absurd HA.out (by simp [foolscapref04_Bytes.j1])
    | succ kj2 =>
     have H := HA.out
     clear HA
     simp only [foolscapref04_Bytes.j1] at H
     by_cases c5 : x15_2 = true
     ·subst c5
      have H1 : (if 0 ≤ x5_1 then (if x5_1 < (a0.size : Int) then (if x5_1 < (a1.size : Int) then (if (bt a0 x5_1) = (bt a1 x5_1) then (foolscapref04_Bytes.l0 kj2 a0 a1 (wrap64 (x5_1 + 1))) else ((foolscapref04_sign.f (decide ((bt a0 x5_1) < (bt a1 x5_1))) (decide ((bt a0 x5_1) > (bt a1 x5_1)))).bind fun t339 => (some t339))) else (none)) else (none)) else (none)) = some r := by rw [if_pos rfl] at H; exact H
      clear H
      have H := H1
      clear H1
      by_cases c6 : 0 ≤ x5_1
      ·rw [if_pos c6] at H
       have c6b0 : decide (0 ≤ x5_1) = true := decide_eq_true c6
       clear c6
       by_cases c7 : x5_1 < (a0.size : Int)
       ·rw [if_pos c7] at H
        have c7b0 : decide (x5_1 < (a0.size : Int)) = true := decide_eq_true c7
        clear c7
        by_cases c9 : x5_1 < (a1.size : Int)
        ·rw [if_pos c9] at H
         have c9b0 : decide (x5_1 < (a1.size : Int)) = true := decide_eq_true c9
         clear c9
         by_cases c11 : (bt a0 x5_1) = (bt a1 x5_1)
         ·rw [if_pos c11] at H
          have c11b0 : ((bt a0 x5_1) == (bt a1 x5_1)) = true := beq_iff_eq.mpr c11
          have c11b1 : ((bt a0 x5_1) != (bt a1 x5_1)) = false := bne_eq_false_iff_eq.mpr c11
          clear c11
          have H' := Aside0.mk H
          clear H
          have p8 : 0 ≤ (x5_1 : Int) := of_decide_eq_true (by first | (with_reducible assumption) | assumption)
          have q8 : x5_1 < (a0.size : Int) := of_decide_eq_true (by first | (with_reducible assumption) | assumption)
          have hx8 := bt_at a0 x5_1
          replace p8 := eq_true p8
          replace q8 := eq_true q8
          have p10 : 0 ≤ (x5_1 : Int) := of_decide_eq_true (by first | (with_reducible assumption) | assumption)
          have q10 : x5_1 < (a1.size : Int) := of_decide_eq_true (by first | (with_reducible assumption) | assumption)
          have hx10 := bt_at a1 x5_1
          replace p10 := eq_true p10
          replace q10 := eq_true q10
          go_wp2
          repeat (go_quiet (fail); try go_wp2)
          go_roundg kj2
          case measure => have := HK1.out; have := HJ2.out; omega
          case rel => exact ⟨(wrap64 (x5_1 + 1)), (by first | rfl | (simp; done) | (simp [*]; done)), H', ⟨by have := HK1.out; have := HJ2.out; omega⟩, by repeat (first | exact Drawn0.refl _ | apply Drawn0.step)⟩
         ·rw [if_neg c11] at H
          have c11b0 : ((bt a0 x5_1) == (bt a1 x5_1)) = false := beq_eq_false_iff_ne.mpr c11
          have c11b1 : ((bt a0 x5_1) != (bt a1 x5_1)) = true := bne_iff_ne.mpr c11
          replace H := Option.bind_eq_some_iff.mp H
          obtain ⟨t339, A160, H⟩ := H
          replace H : (some t339) = some r := H
          have A16 := Aside0.mk A160
          clear A160
          obtain rfl := Option.some.inj H
          have p8 : 0 ≤ (x5_1 : Int) := of_decide_eq_true (by first | (with_reducible assumption) | assumption)
          have q8 : x5_1 < (a0.size : Int) := of_decide_eq_true (by first | (with_reducible assumption) | assumption)
          have hx8 := bt_at a0 x5_1
          replace p8 := eq_true p8
          replace q8 := eq_true q8
          have p10 : 0 ≤ (x5_1 : Int) := of_decide_eq_true (by first | (with_reducible assumption) | assumption)
          have q10 : x5_1 < (a1.size : Int) := of_decide_eq_true (by first | (with_reducible assumption) | assumption)
          have hx10 := bt_at a1 x5_1
          replace p10 := eq_true p10
          replace q10 := eq_true q10
          have p12 : 0 ≤ (x5_1 : Int) := of_decide_eq_true (by first | (with_reducible assumption) | assumption)
          have q12 : x5_1 < (a0.size : Int) := of_decide_eq_true (by first | (with_reducible assumption) | assumption)
          have hx12 := bt_at a0 x5_1
          replace p12 := eq_true p12
          replace q12 := eq_true q12
          have p13 : 0 ≤ (x5_1 : Int) := of_decide_eq_true (by first | (with_reducible assumption) | assumption)
          have q13 : x5_1 < (a1.size : Int) := of_decide_eq_true (by first | (with_reducible assumption) | assumption)
          have hx13 := bt_at a1 x5_1
          replace p13 := eq_true p13
          replace q13 := eq_true q13
          have p14 : 0 ≤ (x5_1 : Int) := of_decide_eq_true (by first | (with_reducible assumption) | assumption)
          have q14 : x5_1 < (a0.size : Int) := of_decide_eq_true (by first | (with_reducible assumption) | assumption)
          have hx14 := bt_at a0 x5_1
          replace p14 := eq_true p14
          replace q14 := eq_true q14
          have p15 : 0 ≤ (x5_1 : Int) := of_decide_eq_true (by first | (with_reducible assumption) | assumption)
          have q15 : x5_1 < (a1.size : Int) := of_decide_eq_true (by first | (with_reducible assumption) | assumption)
          have hx15 := bt_at a1 x5_1
          replace p15 := eq_true p15
          replace q15 := eq_true q15
          go_wp2_with (first | (go_at_call 57; (with_reducible refine (foolscapref04_sign.calls (decide ((bt a0 x5_1) < (bt a1 x5_1))) (decide ((bt a0 x5_1) > (bt a1 x5_1))) t339 _ A16.out).mono ?_); rintro e w' ⟨rfl, ⟨nd, rfl⟩⟩; (try first | exact ⟨rfl, _, World.drewN_drewN _ _ _⟩ | exact ⟨rfl, _, Eq.trans (World.drewN_drewN _ _ _) (congrArg (World.drewN _) (Nat.add_assoc _ _ _))⟩)))
          repeat (go_quiet (first | (go_at_call 57; (with_reducible refine (foolscapref04_sign.calls (decide ((bt a0 x5_1) < (bt a1 x5_1))) (decide ((bt a0 x5_1) > (bt a1 x5_1))) t339 _ A16.out).mono ?_); rintro e w' ⟨rfl, ⟨nd, rfl⟩⟩; (try first | exact ⟨rfl, _, World.drewN_drewN _ _ _⟩ | exact ⟨rfl, _, Eq.trans (World.drewN_drewN _ _ _) (congrArg (World.drewN _) (Nat.add_assoc _ _ _))⟩))); try go_wp2_with (first | (go_at_call 57; (with_reducible refine (foolscapref04_sign.calls (decide ((bt a0 x5_1) < (bt a1 x5_1))) (decide ((bt a0 x5_1) > (bt a1 x5_1))) t339 _ A16.out).mono ?_); rintro e w' ⟨rfl, ⟨nd, rfl⟩⟩; (try first | exact ⟨rfl, _, World.drewN_drewN _ _ _⟩ | exact ⟨rfl, _, Eq.trans (World.drewN_drewN _ _ _) (congrArg (World.drewN _) (Nat.add_assoc _ _ _))⟩))))
          go_ret
          exact ⟨by first | rfl | (simp; done) | (simp [*]; done), by repeat (first | exact Drawn0.refl _ | apply Drawn0.step)⟩
        ·rw [if_neg c9] at H
         exact absurd H (by simp)
       ·rw [if_neg c7] at H
        exact absurd H (by simp)
      ·rw [if_neg c6] at H
       exact absurd H (by simp)
     ·replace c5 := Bool.eq_false_iff.mpr c5
      subst c5
      have H1 : ((foolscapref04_sign.f (decide ((a0.size : Int) < (a1.size : Int))) (decide ((a0.size : Int) > (a1.size : Int)))).bind fun t340 => (some t340)) = some r := by rw [if_neg (show ¬ (false = true) by decide)] at H; exact H
      clear H
      have H := H1
      clear H1
      replace H := Option.bind_eq_some_iff.mp H
      obtain ⟨t340, A170, H⟩ := H
      replace H : (some t340) = some r := H
      have A17 := Aside0.mk A170
      clear A170
      obtain rfl := Option.some.inj H
      go_wp2_with (first | (go_at_call 57; (try simp only [← Int.ofNat_lt, ← Int.ofNat_le]); (with_reducible refine (foolscapref04_sign.calls (decide ((a0.size : Int) < (a1.size : Int))) (decide ((a0.size : Int) > (a1.size : Int))) t340 _ A17.out).mono ?_); rintro e w' ⟨rfl, ⟨nd, rfl⟩⟩; (try first | exact ⟨rfl, _, World.drewN_drewN _ _ _⟩ | exact ⟨rfl, _, Eq.trans (World.drewN_drewN _ _ _) (congrArg (World.drewN _) (Nat.add_assoc _ _ _))⟩)))
      repeat (go_quiet (first | (go_at_call 57; (try simp only [← Int.ofNat_lt, ← Int.ofNat_le]); (with_reducible refine (foolscapref04_sign.calls (decide ((a0.size : Int) < (a1.size : Int))) (decide ((a0.size : Int) > (a1.size : Int))) t340 _ A17.out).mono ?_); rintro e w' ⟨rfl, ⟨nd, rfl⟩⟩; (try first | exact ⟨rfl, _, World.drewN_drewN _ _ _⟩ | exact ⟨rfl, _, Eq.trans (World.drewN_drewN _ _ _) (congrArg (World.drewN _) (Nat.add_assoc _ _ _))⟩))); try go_wp2_with (first | (go_at_call 57; (try simp only [← Int.ofNat_lt, ← Int.ofNat_le]); (with_reducible refine (foolscapref04_sign.calls (decide ((a0.size : Int) < (a1.size : Int))) (decide ((a0.size : Int) > (a1.size : Int))) t340 _ A17.out).mono ?_); rintro e w' ⟨rfl, ⟨nd, rfl⟩⟩; (try first | exact ⟨rfl, _, World.drewN_drewN _ _ _⟩ | exact ⟨rfl, _, Eq.trans (World.drewN_drewN _ _ _) (congrArg (World.drewN _) (Nat.add_assoc _ _ _))⟩))))
      go_ret
      exact ⟨by first | rfl | (simp; done) | (simp [*]; done), by repeat (first | exact Drawn0.refl _ | apply Drawn0.step)⟩
end Go.Proofs.YtngdggmlfoogcaaGreatDoor.Pr
end
