/-
  What the law ValueTexts leans on, out of the texts that were printed and written for this seat: only what its proof mentions (gathered by a program of the author's).
-/
import Derived.Test.YtgjdlimbkjdhjaaGreatDoorSValueTexts4
import Derived.Below
import Derived.Laws.IdiomStrings
import Derived.Laws.NewBlocks
import Derived.Laws.RangeAny
import Derived.LoopTactic
import Derived.WalkKit
section
namespace Go.Proofs.YtgjdlimbkjdhjaaGreatDoor.Pr
set_option linter.unusedVariables false
set_option linter.unusedSimpArgs false
open Go.RowKit Go.Proofs.YtgjdlimbkjdhjaaGreatDoorW.PrintWords Go.Proofs.YtgjdlimbkjdhjaaGreatDoorW.PrintMore
def up (c : UInt8) : UInt8 := if 97 ≤ c.toNat ∧ c.toNat ≤ 122 then c - 32 else c
def foldAt (l : List UInt8) (k : Nat) : List UInt8 := (l.take k).map up ++ l.drop k
theorem foldAt_length (l : List UInt8) (k : Nat) : (foldAt l k).length = l.length := by unfold foldAt; simp; omega
def BytesAt (w : World) (B : Nat) (l : List UInt8) : Prop := ∀ j (h : j < l.length), w.cell? ⟨B, j, none⟩ = some (.int .u8 (l[j].toNat : Int)) ∧ w.frozen? ⟨B, j, none⟩ = false
theorem foldAt_get (l : List UInt8) (k j : Nat) (h : j < (foldAt l k).length) (h2 : j < l.length) : (foldAt l k)[j] = if j < k then up l[j] else l[j] := by
  have e : (foldAt l k)[j] = (List.map up (l.take k) ++ l.drop k)[j]'(by simpa [foldAt] using h) := rfl
  rw [e, List.getElem_append]
  split
  · rename_i hj
    simp at hj
    rw [if_pos (by omega)]
    simp
  · rename_i hj
    simp at hj
    rw [if_neg (by omega)]
    simp
    congr 1
    omega
theorem up_le (c : UInt8) (h : 97 ≤ c.toNat) (h2 : c.toNat ≤ 122) : ((up c).toNat : Int) = (c.toNat : Int) - 97 + 65 := by
  unfold up
  rw [if_pos ⟨h, h2⟩, UInt8.toNat_sub_of_le _ _ (by rw [UInt8.le_iff_toNat_le]; show 32 ≤ _; omega)]
  show ((c.toNat - 32 : Nat) : Int) = _
  omega
theorem up_no (c : UInt8) (h : ¬ (97 ≤ c.toNat ∧ c.toNat ≤ 122)) : up c = c := by unfold up; rw [if_neg h]
theorem foldAt_zero (l : List UInt8) : foldAt l 0 = l := by simp [foldAt]
theorem foldAt_all (l : List UInt8) (k : Nat) (h : ¬ k < l.length) : foldAt l k = l.map up := by
  unfold foldAt
  rw [List.take_of_length_le (by omega), List.drop_of_length_le (by omega), List.append_nil]
theorem bytesAt_same {w : World} {B : Nat} {l : List UInt8} {k : Nat} (h : BytesAt w B (foldAt l k)) (hk : k < l.length) (hu : up l[k] = l[k]) : BytesAt w B (foldAt l (k + 1)) := by
  intro j hj
  have hj2 : j < l.length := by rw [foldAt_length] at hj; exact hj
  have := h j (by rw [foldAt_length]; exact hj2)
  rw [foldAt_get l k j _ hj2] at this
  rw [foldAt_get l (k + 1) j _ hj2]
  by_cases c : j < k
  · rw [if_pos c] at this; rw [if_pos (by omega)]; exact this
  · rw [if_neg c] at this
    by_cases c2 : j = k
    · subst c2; rw [if_pos (by omega), hu]; exact this
    · rw [if_neg (by omega)]; exact this
theorem bytesAt_set {w : World} {B : Nat} {l : List UInt8} {k : Nat} (h : BytesAt w B (foldAt l k)) (hk : k < l.length) (v : Int) (hv : v = ((up l[k]).toNat : Int)) : BytesAt (w.setCell ⟨B, k, none⟩ (.int .u8 v)) B (foldAt l (k + 1)) := by
  subst hv
  intro j hj
  have hj2 : j < l.length := by rw [foldAt_length] at hj; exact hj
  have h1 := h j (by rw [foldAt_length]; exact hj2)
  have hkk := h k (by rw [foldAt_length]; exact hk)
  rw [foldAt_get l k j _ hj2] at h1
  rw [foldAt_get l (k + 1) j _ hj2]
  refine ⟨?_, by rw [World.frozen?_setCell]; exact h1.2⟩
  by_cases c2 : j = k
  · subst c2; rw [if_pos (by omega)]; exact World.cell?_setCell_same _ _ _ hkk.1
  · rw [World.cell?_setCell_other _ _ _ _ (by first | (simp; done) | (simp; omega))]
    by_cases c : j < k
    · rw [if_pos c] at h1; rw [if_pos (by omega)]; exact h1.1
    · rw [if_neg c] at h1; rw [if_neg (by omega)]; exact h1.1
theorem bytesAt_back {P : Program} {w : World} {B : Nat} {l : List UInt8} {src dst e : TypeId} (cap : Nat) (h : BytesAt w B l) (hs : P.underlying src = some (.slice e)) (he : P.underlying e = some (.int .u8)) (hd : P.underlying dst = some .string) (n : Nat) (hn : n = l.length) :
    (convert src dst (.slice (some ⟨B, 0, none⟩) n cap)).run P w = .ok (.string ⟨l.toArray⟩) w := by
  subst hn
  exact run_convert_bytes_back w src dst e ⟨B, 0, none⟩ cap l hs he hd (fun j hj => by rw [add_plain]; first | exact (h j hj).1 | (rw [Nat.zero_add]; exact (h j hj).1))
theorem setCell_heap_size (w : World) (a : Addr) (v : Value) : (w.setCell a v).heap.size = w.heap.size := by unfold World.setCell; simp
theorem bytesAt_new (w : World) (l : List UInt8) (cap : Nat) : BytesAt (w.drew.alloc (.cells (bytesRow ⟨l.toArray⟩ cap) 5 ((bytesRow ⟨l.toArray⟩ cap).size, (bytesRow ⟨l.toArray⟩ cap).size + 1))) w.heap.size l := by
  intro j hj
  have hsz : l.length ≤ (bytesRow ⟨l.toArray⟩ cap).size := by simp [bytesRow]
  refine ⟨?_, ?_⟩
  · have := bytesRow_at ⟨l.toArray⟩ cap j (by simpa using hj)
    show (w.drew.alloc _).cell? ⟨w.drew.heap.size, j, none⟩ = _
    rw [World.cell?_alloc_mark, this]
    simp
  · show (w.drew.alloc _).frozen? ⟨w.drew.heap.size, j, none⟩ = _
    rw [World.frozen?_alloc_mark]
    simp
    omega
set_option maxHeartbeats 4000000 in
set_option maxRecDepth 100000 in
theorem fold_walk (l : List UInt8) (w : World) (cap : Nat) (w1 : World) (hl : l.length ≤ 140737488351232)
    (hconv : (convert 9 67 (.string ⟨l.toArray⟩)).run Tryz.prog w = .ok (.slice (some ⟨w.heap.size, 0, none⟩) l.length cap) w1)
    (hb : BytesAt w1 w.heap.size (foldAt l 0)) (hbel : Below w.heap.size w w1) (hsz : w.heap.size < w1.heap.size) :
    Calls Tryz.prog 16 #[.string ⟨l.toArray⟩] w fun e w' => e = .returned (.string ⟨(l.map up).toArray⟩) ∧ Below w.heap.size w w' := by
  go_enter Tryz.func16, Tryz.ntmps16
  go_wp2
  go_loopw [4] (fun n wr => ∃ k : Nat, k ≤ l.length ∧ n = .int .i64 k ∧ BytesAt wr w.heap.size (foldAt l k) ∧ Below w.heap.size w wr ∧ w.heap.size < wr.heap.size) (fun n _ => l.length - (intOf n).toNat)
  case atStart => exact ⟨0, Nat.zero_le _, rfl, hb, hbel, hsz⟩
  case round =>
    obtain ⟨k, hk, rfl, hb, hbel, hsz⟩ := hrel
    by_cases hlt : k < l.length
    · have hck := hb k (by rw [foldAt_length]; exact hlt)
      rw [foldAt_get l k k _ hlt, if_neg (Nat.lt_irrefl k)] at hck
      obtain ⟨hc, hf⟩ := hck
      go_wp2
      · have h1 : 97 ≤ (l[k].toNat : Int) := by assumption
        have h2 : (l[k].toNat : Int) ≤ 122 := by assumption
        refine ⟨⟨k + 1, hlt, by go_num, bytesAt_set hb hlt _ (up_le l[k] (by omega) (by omega)).symm, hbel.setCell (Nat.le_refl _) _, by rw [setCell_heap_size]; exact hsz⟩, ?_⟩
        simp [intOf]; omega
      · have h2 : 122 < (l[k].toNat : Int) := by assumption
        refine ⟨⟨k + 1, hlt, by go_num, bytesAt_same hb hlt (up_no _ (by omega)), hbel, hsz⟩, ?_⟩
        simp [intOf]; omega
      · have h1 : ¬ 97 ≤ (l[k].toNat : Int) := by assumption
        refine ⟨⟨k + 1, hlt, by go_num, bytesAt_same hb hlt (up_no _ (by omega)), hbel, hsz⟩, ?_⟩
        simp [intOf]; omega
    · rw [foldAt_all l k hlt] at hb
      have hback := bytesAt_back (P := Tryz.prog) (src := 67) (dst := 9) (e := 5) cap hb Tryz.underlying67 Tryz.underlying5 Tryz.underlying9 l.length (by simp)
      go_wp2
      go_ret
      exact ⟨rfl, hbel⟩
theorem fold_calls (l : List UInt8) (w : World) (hl : l.length ≤ 140737488351232) :
    Calls Tryz.prog 16 #[.string ⟨l.toArray⟩] w fun e w' => e = .returned (.string ⟨(l.map up).toArray⟩) ∧ Below w.heap.size w w' := by
  have hconv := run_bytes_of_string (P := Tryz.prog) w 9 67 5 ⟨l.toArray⟩ Tryz.underlying9 Tryz.underlying67 Tryz.underlying5
  refine fold_walk l w _ _ hl hconv ?_ ?_ ?_
  · rw [foldAt_zero]; exact bytesAt_new w l _
  · exact (Below.refl _ _).drew.alloc (Nat.le_refl _) _
  · show w.heap.size < (w.heap.push _).size
    simp
theorem get_bang (l : List UInt8) (k : Nat) (h : k < l.length) : (⟨l.toArray⟩ : ByteArray).get! k = l[k] := by
  show (l.toArray)[k]! = _
  rw [getElem!_pos (l.toArray) k (by simpa using h)]
  simp
theorem get_at0 (l : List UInt8) (k : Nat) (h : k < l.length) : (⟨l.toArray⟩ : ByteArray)[k]'(by simpa [ByteArray.size] using h) = l[k] := by
  show (l.toArray)[k] = _
  simp
theorem decode_cont (s : ByteArray) (i t : Nat) (h1 : 1 ≤ t) (h2 : t < (Utf8.decode s i).2) : i + t < s.size ∧ 128 ≤ (s.get! (i + t)).toNat := by
  have key : ∀ k, (decide (i + k < s.size) && (s.get! (i + k)).toNat / 64 == 2) = true → i + k < s.size ∧ 128 ≤ (s.get! (i + k)).toNat := by
    intro k hk
    simp only [Bool.and_eq_true, decide_eq_true_eq, beq_iff_eq] at hk
    exact ⟨hk.1, by omega⟩
  simp only [Utf8.decode] at h2
  repeat' split at h2
  all_goals dsimp only at h2
  all_goals try (exfalso; omega)
  · rename_i _ h _
    obtain rfl : t = 1 := by omega
    exact key 1 (Bool.and_eq_true_iff.1 h).2
  · rename_i _ _ h _
    have h' := Bool.and_eq_true_iff.1 h
    rcases (show t = 1 ∨ t = 2 by omega) with rfl | rfl
    · exact key 1 (Bool.and_eq_true_iff.1 h'.1).2
    · exact key 2 h'.2
  · rename_i _ _ _ h _
    have h' := Bool.and_eq_true_iff.1 h
    have h'' := Bool.and_eq_true_iff.1 h'.1
    rcases (show t = 1 ∨ t = 2 ∨ t = 3 by omega) with rfl | rfl | rfl
    · exact key 1 (Bool.and_eq_true_iff.1 h''.1).2
    · exact key 2 h''.2
    · exact key 3 h'.2
theorem decode_le_end (s : ByteArray) (i : Nat) (h : i < s.size) : i + (Utf8.decode s i).2 ≤ s.size := by
  by_cases c : (Utf8.decode s i).2 ≤ 1
  · omega
  · have := (decode_cont s i ((Utf8.decode s i).2 - 1) (by omega) (by omega)).1
    omega
theorem bytesAt_skip {w : World} {B : Nat} {l : List UInt8} {k : Nat} (h : BytesAt w B (foldAt l k)) (n : Nat) (hk : k + n ≤ l.length) (hu : ∀ j (hj : j < l.length), k ≤ j → j < k + n → up l[j] = l[j]) : BytesAt w B (foldAt l (k + n)) := by
  induction n with
  | zero => exact h
  | succ n ih => exact bytesAt_same (k := k + n) (ih (by omega) (fun j hj h1 h2 => hu j hj h1 (by omega))) (show k + n < l.length by omega) (hu (k + n) (by omega) (by omega) (by omega))
theorem iter_setCell (w : World) (s : ByteArray) (p : Nat) (a : Addr) (v : Value) (h : a.block < w.heap.size) : (w.iter s p).setCell a v = (w.setCell a v).iter s p := by
  unfold World.setCell World.iter World.alloc
  simp only
  congr 1
  apply Array.ext
  · simp
  · intro i h1 h2
    simp only [Array.getElem_modify, Array.getElem_push]
    simp at h1
    by_cases hb : a.block = i
    · subst hb
      simp [h]
    · simp [hb]
theorem iter_cell (w : World) (s : ByteArray) (p : Nat) (a : Addr) (h : a.block < w.heap.size) : (w.iter s p).cell? a = w.cell? a := by
  unfold World.cell? World.iter World.alloc
  simp [Array.getElem?_push, Nat.ne_of_lt h]
theorem iter_frozen (w : World) (s : ByteArray) (p : Nat) (a : Addr) (h : a.block < w.heap.size) : (w.iter s p).frozen? a = w.frozen? a := by
  unfold World.frozen? World.iter World.alloc
  simp [Array.getElem?_push, Nat.ne_of_lt h]
theorem bytesAt_iter {w : World} {B : Nat} {l : List UInt8} (s : ByteArray) (p : Nat) (h : B < w.heap.size) : BytesAt (w.iter s p) B l ↔ BytesAt w B l := by
  unfold BytesAt
  constructor
  · intro H j hj
    have := H j hj
    rw [iter_cell _ _ _ _ h, iter_frozen _ _ _ _ h] at this
    exact this
  · intro H j hj
    rw [iter_cell _ _ _ _ h, iter_frozen _ _ _ _ h]
    exact H j hj
theorem up_high (c : UInt8) (h : 128 ≤ c.toNat) : up c = c := up_no c (by omega)
set_option maxHeartbeats 4000000 in
set_option maxRecDepth 100000 in
theorem vfold_walk (l : List UInt8) (w : World) (cap : Nat) (w1 : World) (hl : l.length ≤ 140737488351232)
    (hconv : (convert 9 67 (.string ⟨l.toArray⟩)).run Tryz.prog w = .ok (.slice (some ⟨w.heap.size, 0, none⟩) l.length cap) w1)
    (hb : BytesAt w1 w.heap.size (foldAt l 0)) (hbel : Below w.heap.size w w1) (hsz : w.heap.size < w1.heap.size) :
    Calls Tryz.prog 15 #[.string ⟨l.toArray⟩] w fun e w' => e = .returned (.string ⟨(l.map up).toArray⟩) ∧ Below w.heap.size w w' := by
  go_enter Tryz.func15, Tryz.ntmps15
  go_wp2
  go_loopw [] (fun wr => ∃ (k : Nat) (w0 : World), k ≤ l.length ∧ wr = w0.iter ⟨l.toArray⟩ k ∧ w0.heap.size = w1.heap.size ∧ BytesAt w0 w.heap.size (foldAt l k) ∧ Below w.heap.size w w0) (fun wr => l.length - wr.iterPos w1.heap.size)
  case atStart => exact ⟨0, w1, Nat.zero_le _, rfl, rfl, hb, hbel⟩
  case round =>
    obtain ⟨k, w0, hk, rfl, hs0, hb0, hbel0⟩ := hrel
    have hpos : (w0.iter ⟨l.toArray⟩ k).iterPos w1.heap.size = k := by rw [← hs0]; exact World.iterPos_iter _ _ _
    by_cases hlt : k < l.length
    · have hck := hb0 k (by rw [foldAt_length]; exact hlt)
      rw [foldAt_get l k k _ hlt, if_neg (Nat.lt_irrefl k)] at hck
      obtain ⟨hc, hf⟩ := hck
      have hBs : w.heap.size < w0.heap.size := by omega
      have hsize : k < (⟨l.toArray⟩ : ByteArray).size := by simpa [ByteArray.size] using hlt
      have hnx : (Instr.next (.pointer (some ⟨w1.heap.size, 0, none⟩)) true 0).run Tryz.prog (w0.iter ⟨l.toArray⟩ k) = .ok (.tuple #[.bool true, .int .i64 k, .int .i32 (Utf8.decode ⟨l.toArray⟩ k).1]) (w0.iter ⟨l.toArray⟩ (k + (Utf8.decode ⟨l.toArray⟩ k).2)) := by
        rw [← hs0]; exact run_next_any w0 ⟨l.toArray⟩ k 0 hsize
      by_cases ha : l[k].toNat < 128
      · have hd : Utf8.decode ⟨l.toArray⟩ k = (l[k].toNat, 1) := by
          have := decode_ascii ⟨l.toArray⟩ k hsize (by rw [get_at0 l k hlt]; exact ha)
          rw [get_at0 l k hlt] at this
          exact this
        rw [hd] at hnx
        have hci : (w0.iter ⟨l.toArray⟩ (k + 1)).cell? ⟨w.heap.size, k, none⟩ = some (.int .u8 (l[k].toNat : Int)) := by rw [iter_cell _ _ _ _ hBs]; exact hc
        have hfi : (w0.iter ⟨l.toArray⟩ (k + 1)).frozen? ⟨w.heap.size, k, none⟩ = false := by rw [iter_frozen _ _ _ _ hBs]; exact hf
        have hpos1 : (w0.iter ⟨l.toArray⟩ (k + 1)).iterPos w1.heap.size = k + 1 := by rw [← hs0]; exact World.iterPos_iter _ _ _
        go_wp2
        · have h1 : 97 ≤ (l[k].toNat : Int) := by assumption
          have h2 : (l[k].toNat : Int) ≤ 122 := by assumption
          rw [iter_setCell _ _ _ _ _ hBs]
          refine ⟨⟨k + 1, _, hlt, rfl, by rw [setCell_heap_size]; exact hs0, bytesAt_set hb0 hlt _ (by rw [up_le l[k] (by omega) (by omega)]; omega), hbel0.setCell (Nat.le_refl _) _⟩, ?_⟩
          have hp2 : ((w0.setCell ⟨w.heap.size, k, none⟩ (.int .u8 ((l[k].toNat : Int) - 32))).iter ⟨l.toArray⟩ (k + 1)).iterPos w1.heap.size = k + 1 := by
            rw [show w1.heap.size = (w0.setCell ⟨w.heap.size, k, none⟩ (.int .u8 ((l[k].toNat : Int) - 32))).heap.size by rw [setCell_heap_size, hs0]]
            exact World.iterPos_iter _ _ _
          rw [hp2, hpos]
          omega
        · have h2 : 122 < (l[k].toNat : Int) := by assumption
          refine ⟨⟨k + 1, w0, hlt, rfl, hs0, bytesAt_same hb0 hlt (up_no _ (by omega)), hbel0⟩, ?_⟩
          rw [hpos1, hpos]; omega
        · have h1 : ¬ 97 ≤ (l[k].toNat : Int) := by assumption
          refine ⟨⟨k + 1, w0, hlt, rfl, hs0, bytesAt_same hb0 hlt (up_no _ (by omega)), hbel0⟩, ?_⟩
          rw [hpos1, hpos]; omega
      · have hd := decode_high ⟨l.toArray⟩ k hsize (by rw [get_at0 l k hlt]; omega)
        have hend := decode_le_end ⟨l.toArray⟩ k hsize
        have hcont := decode_cont ⟨l.toArray⟩ k
        have hle := decode_le ⟨l.toArray⟩ k
        rw [show (⟨l.toArray⟩ : ByteArray).size = l.length by simp [ByteArray.size]] at hend
        obtain ⟨d, hde⟩ : ∃ d, Utf8.decode ⟨l.toArray⟩ k = d := ⟨_, rfl⟩
        rw [hde] at hnx hd hend hcont hle
        obtain ⟨c, n⟩ := d
        simp only at hnx hd hend hcont hle
        clear hde
        have hb2 : BytesAt w0 w.heap.size (foldAt l (k + n)) := by
          refine bytesAt_skip hb0 n hend fun j hj h1 h2 => up_high _ ?_
          by_cases e : j = k
          · subst e; omega
          · have := (hcont (j - k) (by omega) (by omega)).2
            rw [show k + (j - k) = j by omega, get_bang l j hj] at this
            exact this
        have hpos1 : (w0.iter ⟨l.toArray⟩ (k + n)).iterPos w1.heap.size = k + n := by rw [← hs0]; exact World.iterPos_iter _ _ _
        have hc97 : (97 : Int) ≤ c := by omega
        have hc122 : (122 : Int) < c := by omega
        clear hcont
        go_wp2
        refine ⟨⟨k + n, w0, hend, rfl, hs0, hb2, hbel0⟩, ?_⟩
        rw [hpos1, hpos]
        omega
    · have hnx : (Instr.next (.pointer (some ⟨w1.heap.size, 0, none⟩)) true 0).run Tryz.prog (w0.iter ⟨l.toArray⟩ k) = .ok (.tuple #[.bool false]) (w0.iter ⟨l.toArray⟩ k) := by
        rw [← hs0]; exact run_next_end w0 ⟨l.toArray⟩ k 0 (by simpa [ByteArray.size] using hlt)
      rw [foldAt_all l k hlt] at hb0
      have hBs : w.heap.size < w0.heap.size := by omega
      have hback := bytesAt_back (P := Tryz.prog) (src := 67) (dst := 9) (e := 5) cap ((bytesAt_iter ⟨l.toArray⟩ k hBs).2 hb0) Tryz.underlying67 Tryz.underlying5 Tryz.underlying9 l.length (by simp)
      go_wp2
      go_ret
      exact ⟨rfl, hbel0.alloc (Nat.le_of_lt hBs) _⟩
theorem vfold_calls (l : List UInt8) (w : World) (hl : l.length ≤ 140737488351232) :
    Calls Tryz.prog 15 #[.string ⟨l.toArray⟩] w fun e w' => e = .returned (.string ⟨(l.map up).toArray⟩) ∧ Below w.heap.size w w' := by
  have hconv := run_bytes_of_string (P := Tryz.prog) w 9 67 5 ⟨l.toArray⟩ Tryz.underlying9 Tryz.underlying67 Tryz.underlying5
  refine vfold_walk l w _ _ hl hconv ?_ ?_ ?_
  · rw [foldAt_zero]; exact bytesAt_new w l _
  · exact (Below.refl _ _).drew.alloc (Nat.le_refl _) _
  · show w.heap.size < (w.heap.push _).size
    simp
def foldB (a : ByteArray) : ByteArray := ⟨(a.data.toList.map up).toArray⟩
def foolscapref04_Fold.f (a0 : ByteArray) : Option ByteArray := if a0.size ≤ 140737488351232 then some (foldB a0) else none
def value_Fold.f (a0 : ByteArray) : Option ByteArray := if a0.size ≤ 140737488351232 then some (foldB a0) else none
theorem foolscapref04_Fold.calls (a0 r : ByteArray) (w : World) (h : foolscapref04_Fold.f a0 = some r) :
    Calls Tryz.prog 16 #[.string a0] w fun e w' => e = .returned (.string r) ∧ Below w.heap.size w w' := by
  unfold foolscapref04_Fold.f at h
  split at h
  · rename_i c
    obtain rfl := Option.some.inj h
    obtain ⟨⟨l⟩⟩ := a0
    exact fold_calls l w c
  · cases h
theorem value_Fold.calls (a0 r : ByteArray) (w : World) (h : value_Fold.f a0 = some r) :
    Calls Tryz.prog 15 #[.string a0] w fun e w' => e = .returned (.string r) ∧ Below w.heap.size w w' := by
  unfold value_Fold.f at h
  split at h
  · rename_i c
    obtain rfl := Option.some.inj h
    obtain ⟨⟨l⟩⟩ := a0
    exact vfold_calls l w c
  · cases h
end Go.Proofs.YtgjdlimbkjdhjaaGreatDoor.Pr
end
section
namespace Go.Proofs.YtgjdlimbkjdhjaaGreatDoor.Pr
open Go.RowKit Go.Proofs.YtgjdlimbkjdhjaaGreatDoorW.PrintWords Go.Proofs.YtgjdlimbkjdhjaaGreatDoorW.PrintLast Go.Proofs.YtgjdlimbkjdhjaaGreatDoorW.PrintMore
attribute [local go_sem] max2_int min2_int max_two min_two max_three min_three max_four min_four   -- for this text's walks alone
set_option linter.unusedVariables false
set_option linter.unusedSimpArgs false
mutual
def foolscapref04_Read.j0 : Nat → ByteArray → ByteArray → Bool → Option (Int × Int × ByteArray × Bool × Int × Int)
  | 0, _, _, _ => none
  | k + 1, x0, x6, x28 => if x28 = true then (some (3, 0, (⟨#[]⟩ : ByteArray), (x6.toList == ([84, 82, 85, 69] : List UInt8)), 0, 0)) else ((foolscapref04_Names.f).bind fun t157 => (foolscapref04_Read.l0 k x0 t157 1))
def foolscapref04_Read.l0 : Nat → ByteArray → List ByteArray → Int → Option (Int × Int × ByteArray × Bool × Int × Int)
  | 0, _, _, _ => none
  | k + 1, x0, x7, x8 => if x8 < (x7.length : Int) then (if 0 ≤ x8 then (if (rdOf ByteArray.empty x7 x8).toList = x0.toList then (some (4, 0, (⟨#[]⟩ : ByteArray), false, x8, 0)) else (foolscapref04_Read.l0 k x0 x7 (wrap64 (x8 + 1)))) else (none)) else (if (x0.size : Int) > 255 then (some (0, 0, (⟨#[]⟩ : ByteArray), false, 0, 7)) else (some (2, 0, x0, false, 0, 0)))
end
def foolscapref04_Read.f (k : Nat) (a0 : ByteArray) : Option (Int × Int × ByteArray × Bool × Int × Int) := if a0.toList = ([] : List UInt8) then (some (0, 0, (⟨#[]⟩ : ByteArray), false, 0, 0)) else ((foolscapref01_Parse.f k a0).bind fun bt154 => (if bt154.2 = 0 then (some (1, bt154.1, (⟨#[]⟩ : ByteArray), false, 0, 0)) else ((foolscapref04_Fold.f a0).bind fun t156 => (if t156.toList = ([84, 82, 85, 69] : List UInt8) then (foolscapref04_Read.j0 k a0 t156 true) else (foolscapref04_Read.j0 k a0 t156 (t156.toList == ([70, 65, 76, 83, 69] : List UInt8)))))))
set_option maxHeartbeats 8000000 in
set_option maxRecDepth 100000 in
theorem foolscapref04_Read.calls (k : Nat) (a0 : ByteArray) (r1 : Int) (r2 : Int) (r3 : ByteArray) (r4 : Bool) (r5 : Int) (r6 : Int) (w : World) (h : foolscapref04_Read.f k a0 = some (r1, r2, r3, r4, r5, r6)) :
    Calls Tryz.prog 14 #[.string a0] w fun e w' => e = .returned (.tuple #[.agg #[.int .i64 r1, .int .i64 r2, .string r3, .bool r4, .int .i64 r5], .int .i64 r6]) ∧ Below w.heap.size w w' := by
  have hu25 := Tryz.underlying25
  have HB := Aside0.mk (Below.refl w.heap.size w)
  have H : (if a0.toList = ([] : List UInt8) then (some (0, 0, (⟨#[]⟩ : ByteArray), false, 0, 0)) else ((foolscapref01_Parse.f k a0).bind fun bt154 => (if bt154.2 = 0 then (some (1, bt154.1, (⟨#[]⟩ : ByteArray), false, 0, 0)) else ((foolscapref04_Fold.f a0).bind fun t156 => (if t156.toList = ([84, 82, 85, 69] : List UInt8) then (foolscapref04_Read.j0 k a0 t156 true) else (foolscapref04_Read.j0 k a0 t156 (t156.toList == ([70, 65, 76, 83, 69] : List UInt8)))))))) = some (r1, r2, r3, r4, r5, r6) := h
  clear h
  by_cases c2 : a0.toList = ([] : List UInt8)
  · rw [if_pos c2] at H
    have c2b0 : (a0.toList == ([] : List UInt8)) = true := beq_iff_eq.mpr c2
    have c2b1 : (a0.toList != ([] : List UInt8)) = false := bne_eq_false_iff_eq.mpr c2
    clear c2
    simp only [Option.some.injEq, Prod.mk.injEq] at H
    obtain ⟨rfl, rfl, rfl, rfl, rfl, rfl⟩ := H
    go_enter Tryz.func14, Tryz.ntmps14
    go_wp2_with (first | ((with_reducible refine gate_dst (N := 2) rfl ?_); refine box_event ?hg (N := 2) ?hd (cs := #[.int .i64 0, .int .i64 0, .string (⟨#[]⟩ : ByteArray), .bool false, .int .i64 0]) (t := 25) ?hr ?_; (case hd => rfl); (case hg => rfl); (case hr => first | (go_simp; done) | (go_simp; rfl)); intro gb153 hg w3 hbox hb; have n0_ := Aside0.mk (below_step (by repeat (first | (with_reducible first | exact HB.out | apply below_alloc | apply pw_below_drewN | apply below_drew1) | exact HB.out)) hb); have n1_ := Aside0.mk (hbox); have n2_ := Aside0.mk ((by rw [hg]; exact (below_size (by repeat (first | (with_reducible first | exact HB.out | apply below_alloc | apply pw_below_drewN | apply below_drew1) | exact HB.out))) : w.heap.size ≤ gb153)); have n3_ := Aside0.mk ((by rw [hg]; exact (below_size (by repeat (first | (with_reducible first | exact HB.out | apply below_alloc | apply pw_below_drewN | apply below_drew1) | exact HB.out))) : w.heap.size ≤ gb153)); clear HB; have HB := n0_; have BK153 := n1_; have GW153 := n2_; have GE153 := n3_; clear n0_ n1_ n2_ n3_; clear hb hbox hg; have hcz4_0 : w3.cell? ⟨gb153, 0, none⟩ = some (.int .i64 0) := (blk_cell BK153.out 0).trans rfl; have hcz4_1 : w3.cell? ⟨gb153, 1, none⟩ = some (.int .i64 0) := (blk_cell BK153.out 1).trans rfl; have hcz4_2 : w3.cell? ⟨gb153, 2, none⟩ = some (.string (⟨#[]⟩ : ByteArray)) := (blk_cell BK153.out 2).trans rfl; have hcz4_3 : w3.cell? ⟨gb153, 3, none⟩ = some (.bool false) := (blk_cell BK153.out 3).trans rfl; have hcz4_4 : w3.cell? ⟨gb153, 4, none⟩ = some (.int .i64 0) := (blk_cell BK153.out 4).trans rfl; have hfz4_0 := blk_frozen BK153.out 0; have hfz4_1 := blk_frozen BK153.out 1; have hfz4_2 := blk_frozen BK153.out 2; have hfz4_3 := blk_frozen BK153.out 3; have hfz4_4 := blk_frozen BK153.out 4))
    refine bodyPost_ret (results_ct rfl _ _ gb153 25 #[.int .i64 0, .int .i64 0, .string (⟨#[]⟩ : ByteArray), .bool false, .int .i64 0] (0, 0) _ rfl (by (with_reducible repeat (first | refine blk_drewN ?_ _ | refine blk_drew ?_ | refine blk_alloc ?_ _)); refine blk_put (cs := #[.int .i64 0, .int .i64 0, .string (⟨#[]⟩ : ByteArray), .bool false, .int .i64 0]) ?_ 4 _ rfl; (with_reducible repeat (first | refine blk_drewN ?_ _ | refine blk_drew ?_ | refine blk_alloc ?_ _)); refine blk_put (cs := #[.int .i64 0, .int .i64 0, .string (⟨#[]⟩ : ByteArray), .bool false, .int .i64 0]) ?_ 3 _ rfl; (with_reducible repeat (first | refine blk_drewN ?_ _ | refine blk_drew ?_ | refine blk_alloc ?_ _)); refine blk_put (cs := #[.int .i64 0, .int .i64 0, .string (⟨#[]⟩ : ByteArray), .bool false, .int .i64 0]) ?_ 2 _ rfl; (with_reducible repeat (first | refine blk_drewN ?_ _ | refine blk_drew ?_ | refine blk_alloc ?_ _)); refine blk_put (cs := #[.int .i64 0, .int .i64 0, .string (⟨#[]⟩ : ByteArray), .bool false, .int .i64 0]) ?_ 1 _ rfl; (with_reducible repeat (first | refine blk_drewN ?_ _ | refine blk_drew ?_ | refine blk_alloc ?_ _)); refine blk_put (cs := #[.int .i64 0, .int .i64 0, .string (⟨#[]⟩ : ByteArray), .bool false, .int .i64 0]) ?_ 0 _ rfl; (with_reducible repeat (first | refine blk_drewN ?_ _ | refine blk_drew ?_ | refine blk_alloc ?_ _)); exact BK153.out) Tryz.underlying25 rfl (by kernel_rfl)) rfl ?_
    exact ⟨by first | rfl | (simp [errW_none, errW_some] <;> rfl) | (simp [*, errW_none, errW_some] <;> rfl), by repeat (first | (with_reducible first | exact HB.out | apply below_alloc | apply pw_below_drewN | apply below_drew1 | refine below_set ?_ GE153.out) | exact HB.out)⟩
  · rw [if_neg c2] at H
    have c2b0 : (a0.toList == ([] : List UInt8)) = false := beq_eq_false_iff_ne.mpr c2
    have c2b1 : (a0.toList != ([] : List UInt8)) = true := bne_iff_ne.mpr c2
    replace H := Option.bind_eq_some_iff.mp H
    obtain ⟨⟨t154, t155⟩, A50, H⟩ := H
    replace H : (if t155 = 0 then (some (1, t154, (⟨#[]⟩ : ByteArray), false, 0, 0)) else ((foolscapref04_Fold.f a0).bind fun t156 => (if t156.toList = ([84, 82, 85, 69] : List UInt8) then (foolscapref04_Read.j0 k a0 t156 true) else (foolscapref04_Read.j0 k a0 t156 (t156.toList == ([70, 65, 76, 83, 69] : List UInt8)))))) = some (r1, r2, r3, r4, r5, r6) := H
    have A5 := Aside0.mk A50
    clear A50
    by_cases c6 : t155 = 0
    · rw [if_pos c6] at H
      have c6b0 : (t155 == 0) = true := beq_iff_eq.mpr c6
      have c6b1 : (t155 != 0) = false := bne_eq_false_iff_eq.mpr c6
      clear c6
      simp only [Option.some.injEq, Prod.mk.injEq] at H
      obtain ⟨rfl, rfl, rfl, rfl, rfl, rfl⟩ := H
      go_enter Tryz.func14, Tryz.ntmps14
      go_wp2_with (first | ((with_reducible refine gate_dst (N := 2) rfl ?_); refine box_event ?hg (N := 2) ?hd (cs := #[.int .i64 0, .int .i64 0, .string (⟨#[]⟩ : ByteArray), .bool false, .int .i64 0]) (t := 25) ?hr ?_; (case hd => rfl); (case hg => rfl); (case hr => first | (go_simp; done) | (go_simp; rfl)); intro gb153 hg w7 hbox hb; have n0_ := Aside0.mk (below_step (by repeat (first | (with_reducible first | exact HB.out | apply below_alloc | apply pw_below_drewN | apply below_drew1) | exact HB.out)) hb); have n1_ := Aside0.mk (hbox); have n2_ := Aside0.mk ((by rw [hg]; exact (below_size (by repeat (first | (with_reducible first | exact HB.out | apply below_alloc | apply pw_below_drewN | apply below_drew1) | exact HB.out))) : w.heap.size ≤ gb153)); have n3_ := Aside0.mk ((by rw [hg]; exact (below_size (by repeat (first | (with_reducible first | exact HB.out | apply below_alloc | apply pw_below_drewN | apply below_drew1) | exact HB.out))) : w.heap.size ≤ gb153)); clear HB; have HB := n0_; have BK153 := n1_; have GW153 := n2_; have GE153 := n3_; clear n0_ n1_ n2_ n3_; clear hb hbox hg) | ((with_reducible refine gate_callee (f := 38) rfl ?_); refine goesL_ (some 14) rfl rfl Tryz.func38 (by kernel_rfl) rfl #[.string a0] rfl (by (try simp only [List.map_toArray, List.map_cons, List.map_nil]); first | done | rfl | (simp only [List.length_drop, List.length_take]; rfl) | (simp only [ByteArray.size_append, Int.natCast_add]; done) | (simp only [ByteArray.size_append, Int.natCast_add]; rfl) | (simp only [Array.mk.injEq, List.cons.injEq, Value.int.injEq, true_and, and_true]; (try simp only [mx, mn, wrap64] at *); omega)) ?_; (with_reducible refine (foolscapref01_Parse.calls k a0 t154 t155 _ A5.out).mono ?_); rintro e w' ⟨rfl, ⟨nd, rfl⟩⟩; refine ⟨_, rfl, ?_⟩; (try (rw [drewN_self w7]; generalize hq_ : World.drewN w7 _ = w7; have n0_ : Aside0 (w7.heap[gb153]? = some (.cells #[.int .i64 0, .int .i64 0, .string (⟨#[]⟩ : ByteArray), .bool false, .int .i64 0] 25 (0, 0))) := ⟨by rw [← hq_]; exact (by (with_reducible repeat (first | refine blk_drewN ?_ _ | refine blk_drew ?_ | refine blk_alloc ?_ _)); exact BK153.out)⟩; have n1_ : Aside0 (Below w.heap.size w w7) := ⟨by rw [← hq_]; exact (by repeat (first | (with_reducible first | exact HB.out | apply below_alloc | apply pw_below_drewN | apply below_drew1 | refine below_set ?_ GE153.out) | exact HB.out))⟩; clear BK153 HB hq_; have BK153 := n0_; have HB := n1_; clear n0_ n1_)); have hcz8_0 : w7.cell? ⟨gb153, 0, none⟩ = some (.int .i64 0) := (blk_cell BK153.out 0).trans rfl; have hcz8_1 : w7.cell? ⟨gb153, 1, none⟩ = some (.int .i64 0) := (blk_cell BK153.out 1).trans rfl; have hcz8_2 : w7.cell? ⟨gb153, 2, none⟩ = some (.string (⟨#[]⟩ : ByteArray)) := (blk_cell BK153.out 2).trans rfl; have hcz8_3 : w7.cell? ⟨gb153, 3, none⟩ = some (.bool false) := (blk_cell BK153.out 3).trans rfl; have hcz8_4 : w7.cell? ⟨gb153, 4, none⟩ = some (.int .i64 0) := (blk_cell BK153.out 4).trans rfl; have hfz8_0 := blk_frozen BK153.out 0; have hfz8_1 := blk_frozen BK153.out 1; have hfz8_2 := blk_frozen BK153.out 2; have hfz8_3 := blk_frozen BK153.out 3; have hfz8_4 := blk_frozen BK153.out 4))
      refine bodyPost_ret (results_ct rfl _ _ gb153 25 #[.int .i64 1, .int .i64 t154, .string (⟨#[]⟩ : ByteArray), .bool false, .int .i64 0] (0, 0) _ rfl (by (with_reducible repeat (first | refine blk_drewN ?_ _ | refine blk_drew ?_ | refine blk_alloc ?_ _)); refine blk_put (cs := #[.int .i64 1, .int .i64 t154, .string (⟨#[]⟩ : ByteArray), .bool false, .int .i64 0]) ?_ 4 _ rfl; (with_reducible repeat (first | refine blk_drewN ?_ _ | refine blk_drew ?_ | refine blk_alloc ?_ _)); refine blk_put (cs := #[.int .i64 1, .int .i64 t154, .string (⟨#[]⟩ : ByteArray), .bool false, .int .i64 0]) ?_ 3 _ rfl; (with_reducible repeat (first | refine blk_drewN ?_ _ | refine blk_drew ?_ | refine blk_alloc ?_ _)); refine blk_put (cs := #[.int .i64 1, .int .i64 t154, .string (⟨#[]⟩ : ByteArray), .bool false, .int .i64 0]) ?_ 2 _ rfl; (with_reducible repeat (first | refine blk_drewN ?_ _ | refine blk_drew ?_ | refine blk_alloc ?_ _)); refine blk_put (cs := #[.int .i64 1, .int .i64 0, .string (⟨#[]⟩ : ByteArray), .bool false, .int .i64 0]) ?_ 1 _ rfl; (with_reducible repeat (first | refine blk_drewN ?_ _ | refine blk_drew ?_ | refine blk_alloc ?_ _)); refine blk_put (cs := #[.int .i64 0, .int .i64 0, .string (⟨#[]⟩ : ByteArray), .bool false, .int .i64 0]) ?_ 0 _ rfl; (with_reducible repeat (first | refine blk_drewN ?_ _ | refine blk_drew ?_ | refine blk_alloc ?_ _)); exact BK153.out) Tryz.underlying25 rfl (by kernel_rfl)) rfl ?_
      exact ⟨by first | rfl | (simp [errW_none, errW_some] <;> rfl) | (simp [*, errW_none, errW_some] <;> rfl), by repeat (first | (with_reducible first | exact HB.out | apply below_alloc | apply pw_below_drewN | apply below_drew1 | refine below_set ?_ GE153.out) | exact HB.out)⟩
    · rw [if_neg c6] at H
      have c6b0 : (t155 == 0) = false := beq_eq_false_iff_ne.mpr c6
      have c6b1 : (t155 != 0) = true := bne_iff_ne.mpr c6
      replace H := Option.bind_eq_some_iff.mp H
      obtain ⟨t156, A90, H⟩ := H
      replace H : (if t156.toList = ([84, 82, 85, 69] : List UInt8) then (foolscapref04_Read.j0 k a0 t156 true) else (foolscapref04_Read.j0 k a0 t156 (t156.toList == ([70, 65, 76, 83, 69] : List UInt8)))) = some (r1, r2, r3, r4, r5, r6) := H
      have A9 := Aside0.mk A90
      clear A90
      have HC10 := Aside0.mk H
      clear H
      go_enter Tryz.func14, Tryz.ntmps14
      go_upto_region 7 with (first | ((with_reducible refine gate_dst (N := 2) rfl ?_); refine box_event ?hg (N := 2) ?hd (cs := #[.int .i64 0, .int .i64 0, .string (⟨#[]⟩ : ByteArray), .bool false, .int .i64 0]) (t := 25) ?hr ?_; (case hd => rfl); (case hg => rfl); (case hr => first | (go_simp; done) | (go_simp; rfl)); intro gb153 hg w11 hbox hb; have n0_ := Aside0.mk (below_step (by repeat (first | (with_reducible first | exact HB.out | apply below_alloc | apply pw_below_drewN | apply below_drew1) | exact HB.out)) hb); have n1_ := Aside0.mk (hbox); have n2_ := Aside0.mk ((by rw [hg]; exact (below_size (by repeat (first | (with_reducible first | exact HB.out | apply below_alloc | apply pw_below_drewN | apply below_drew1) | exact HB.out))) : w.heap.size ≤ gb153)); have n3_ := Aside0.mk ((by rw [hg]; exact (below_size (by repeat (first | (with_reducible first | exact HB.out | apply below_alloc | apply pw_below_drewN | apply below_drew1) | exact HB.out))) : w.heap.size ≤ gb153)); clear HB; have HB := n0_; have BK153 := n1_; have GW153 := n2_; have GE153 := n3_; clear n0_ n1_ n2_ n3_; clear hb hbox hg) | ((with_reducible refine gate_callee (f := 38) rfl ?_); refine goesL_ (some 14) rfl rfl Tryz.func38 (by kernel_rfl) rfl #[.string a0] rfl (by (try simp only [List.map_toArray, List.map_cons, List.map_nil]); first | done | rfl | (simp only [List.length_drop, List.length_take]; rfl) | (simp only [ByteArray.size_append, Int.natCast_add]; done) | (simp only [ByteArray.size_append, Int.natCast_add]; rfl) | (simp only [Array.mk.injEq, List.cons.injEq, Value.int.injEq, true_and, and_true]; (try simp only [mx, mn, wrap64] at *); omega)) ?_; (with_reducible refine (foolscapref01_Parse.calls k a0 t154 t155 _ A5.out).mono ?_); rintro e w' ⟨rfl, ⟨nd, rfl⟩⟩; refine ⟨_, rfl, ?_⟩) | ((with_reducible refine gate_callee (f := 16) rfl ?_); refine goesL_ (some 22) rfl rfl Tryz.func16 (by kernel_rfl) rfl #[.string a0] rfl (by (try simp only [List.map_toArray, List.map_cons, List.map_nil]); first | done | rfl | (simp only [List.length_drop, List.length_take]; rfl) | (simp only [ByteArray.size_append, Int.natCast_add]; done) | (simp only [ByteArray.size_append, Int.natCast_add]; rfl) | (simp only [Array.mk.injEq, List.cons.injEq, Value.int.injEq, true_and, and_true]; (try simp only [mx, mn, wrap64] at *); omega)) ?_; (with_reducible refine (foolscapref04_Fold.calls a0 t156 _ A9.out).mono ?_); rintro e w12 ⟨rfl, hb⟩; refine ⟨_, rfl, ?_⟩; have n0_ := Aside0.mk (blk_below (g := gb153) (o := .cells #[.int .i64 0, .int .i64 0, .string (⟨#[]⟩ : ByteArray), .bool false, .int .i64 0] 25 (0, 0)) (by (with_reducible repeat (first | refine blk_drewN ?_ _ | refine blk_drew ?_ | refine blk_alloc ?_ _)); exact BK153.out) hb); have n1_ := Aside0.mk (below_step (by repeat (first | (with_reducible first | exact HB.out | apply below_alloc | apply pw_below_drewN | apply below_drew1 | refine below_set ?_ GE153.out) | exact HB.out)) hb); clear BK153; clear HB; have BK153 := n0_; have HB := n1_; clear n0_ n1_; (try clear hb); (try clear hb2); (try clear hk); (try clear hi)))
      (try simp only [Act.put, List.setIfInBounds_toArray, List.set_cons_zero, List.set_cons_succ])
      go_cut [28] (fun v28 wc => ∃ (kq : Nat) (x28_9 : Bool), v28 = .bool x28_9 ∧ Aside0 (foolscapref04_Read.j0 kq a0 t156 x28_9 = some (r1, r2, r3, r4, r5, r6)) ∧ Aside0 (kq ≤ k) ∧ Aside0 (wc.heap[gb153]? = some (.cells #[.int .i64 0, .int .i64 0, .string (⟨#[]⟩ : ByteArray), .bool false, .int .i64 0] 25 (0, 0))) ∧ Aside0 (Below w.heap.size w wc))
      case first =>
        have H := HC10.out
        clear HC10
        by_cases c13 : t156.toList = ([84, 82, 85, 69] : List UInt8)
        · rw [if_pos c13] at H
          have c13b0 : (t156.toList == ([84, 82, 85, 69] : List UInt8)) = true := beq_iff_eq.mpr c13
          have c13b1 : (t156.toList != ([84, 82, 85, 69] : List UInt8)) = false := bne_eq_false_iff_eq.mpr c13
          clear c13
          (first | rw [c13b0] | (simp only [i64_w, i32_w]; rw [c13b0]) | skip)
          have H' := Aside0.mk H
          clear H
          go_wp2
          go_meet
          case rel => exact ⟨_, (true), (by first | rfl | (simp; done) | (simp [*]; done)), H', ⟨by first | omega | exact Nat.le_refl _⟩, ⟨by (with_reducible repeat (first | refine blk_drewN ?_ _ | refine blk_drew ?_ | refine blk_alloc ?_ _)); exact BK153.out⟩, ⟨by repeat (first | (with_reducible first | exact HB.out | apply below_alloc | apply pw_below_drewN | apply below_drew1 | refine below_set ?_ GE153.out) | exact HB.out)⟩⟩
        · rw [if_neg c13] at H
          have c13b0 : (t156.toList == ([84, 82, 85, 69] : List UInt8)) = false := beq_eq_false_iff_ne.mpr c13
          have c13b1 : (t156.toList != ([84, 82, 85, 69] : List UInt8)) = true := bne_iff_ne.mpr c13
          (first | rw [c13b0] | (simp only [i64_w, i32_w]; rw [c13b0]) | skip)
          have H' := Aside0.mk H
          clear H
          go_wp2
          go_meet
          case rel => exact ⟨_, ((t156.toList == ([70, 65, 76, 83, 69] : List UInt8))), (by first | rfl | (simp; done) | (simp [*]; done)), H', ⟨by first | omega | exact Nat.le_refl _⟩, ⟨by (with_reducible repeat (first | refine blk_drewN ?_ _ | refine blk_drew ?_ | refine blk_alloc ?_ _)); exact BK153.out⟩, ⟨by repeat (first | (with_reducible first | exact HB.out | apply below_alloc | apply pw_below_drewN | apply below_drew1 | refine below_set ?_ GE153.out) | exact HB.out)⟩⟩
      case rest =>
        clear HC10
        try clear c1
        try clear c2
        try clear c2b0
        try clear c2b1
        try clear p2
        try clear c3
        try clear c6
        try clear c6b0
        try clear c6b1
        try clear p6
        try clear c13
        try clear c13b0
        try clear c13b1
        try clear hcz4_0
        try clear hcz4_1
        try clear hcz4_2
        try clear hcz4_3
        try clear hcz4_4
        try clear hcz8_0
        try clear hcz8_1
        try clear hcz8_2
        try clear hcz8_3
        try clear hcz8_4
        try clear hfz4_0
        try clear hfz4_1
        try clear hfz4_2
        try clear hfz4_3
        try clear hfz4_4
        try clear hfz8_0
        try clear hfz8_1
        try clear hfz8_2
        try clear hfz8_3
        try clear hfz8_4
        obtain ⟨kq, x28_9, rfl, HA, HJ9, BK153, HB⟩ := hcut
        cases kq with
        | zero => exact absurd HA.out (by simp [foolscapref04_Read.j0])
        | succ kj9 =>
          have H := HA.out
          clear HA
          simp only [foolscapref04_Read.j0] at H
          by_cases c14 : x28_9 = true
          · subst c14
            have H1 : (some (3, 0, (⟨#[]⟩ : ByteArray), (t156.toList == ([84, 82, 85, 69] : List UInt8)), 0, 0)) = some (r1, r2, r3, r4, r5, r6) := by rw [if_pos rfl] at H; exact H
            clear H
            have H := H1
            clear H1
            simp only [Option.some.injEq, Prod.mk.injEq] at H
            obtain ⟨rfl, rfl, rfl, rfl, rfl, rfl⟩ := H
            have hcz15_0 : wc.cell? ⟨gb153, 0, none⟩ = some (.int .i64 0) := (blk_cell BK153.out 0).trans rfl
            have hcz15_1 : wc.cell? ⟨gb153, 1, none⟩ = some (.int .i64 0) := (blk_cell BK153.out 1).trans rfl
            have hcz15_2 : wc.cell? ⟨gb153, 2, none⟩ = some (.string (⟨#[]⟩ : ByteArray)) := (blk_cell BK153.out 2).trans rfl
            have hcz15_3 : wc.cell? ⟨gb153, 3, none⟩ = some (.bool false) := (blk_cell BK153.out 3).trans rfl
            have hcz15_4 : wc.cell? ⟨gb153, 4, none⟩ = some (.int .i64 0) := (blk_cell BK153.out 4).trans rfl
            have hfz15_0 := blk_frozen BK153.out 0
            have hfz15_1 := blk_frozen BK153.out 1
            have hfz15_2 := blk_frozen BK153.out 2
            have hfz15_3 := blk_frozen BK153.out 3
            have hfz15_4 := blk_frozen BK153.out 4
            go_wp2
            refine bodyPost_ret (results_ct rfl _ _ gb153 25 #[.int .i64 3, .int .i64 0, .string (⟨#[]⟩ : ByteArray), .bool (t156.toList == ([84, 82, 85, 69] : List UInt8)), .int .i64 0] (0, 0) _ rfl (by (with_reducible repeat (first | refine blk_drewN ?_ _ | refine blk_drew ?_ | refine blk_alloc ?_ _)); refine blk_put (cs := #[.int .i64 3, .int .i64 0, .string (⟨#[]⟩ : ByteArray), .bool (t156.toList == ([84, 82, 85, 69] : List UInt8)), .int .i64 0]) ?_ 4 _ rfl; (with_reducible repeat (first | refine blk_drewN ?_ _ | refine blk_drew ?_ | refine blk_alloc ?_ _)); refine blk_put (cs := #[.int .i64 3, .int .i64 0, .string (⟨#[]⟩ : ByteArray), .bool false, .int .i64 0]) ?_ 3 _ rfl; (with_reducible repeat (first | refine blk_drewN ?_ _ | refine blk_drew ?_ | refine blk_alloc ?_ _)); refine blk_put (cs := #[.int .i64 3, .int .i64 0, .string (⟨#[]⟩ : ByteArray), .bool false, .int .i64 0]) ?_ 2 _ rfl; (with_reducible repeat (first | refine blk_drewN ?_ _ | refine blk_drew ?_ | refine blk_alloc ?_ _)); refine blk_put (cs := #[.int .i64 3, .int .i64 0, .string (⟨#[]⟩ : ByteArray), .bool false, .int .i64 0]) ?_ 1 _ rfl; (with_reducible repeat (first | refine blk_drewN ?_ _ | refine blk_drew ?_ | refine blk_alloc ?_ _)); refine blk_put (cs := #[.int .i64 0, .int .i64 0, .string (⟨#[]⟩ : ByteArray), .bool false, .int .i64 0]) ?_ 0 _ rfl; (with_reducible repeat (first | refine blk_drewN ?_ _ | refine blk_drew ?_ | refine blk_alloc ?_ _)); exact BK153.out) Tryz.underlying25 rfl (by kernel_rfl)) rfl ?_
            exact ⟨by first | rfl | (simp [errW_none, errW_some] <;> rfl) | (simp [*, errW_none, errW_some] <;> rfl), by repeat (first | (with_reducible first | exact HB.out | apply below_alloc | apply pw_below_drewN | apply below_drew1 | refine below_set ?_ GE153.out) | exact HB.out)⟩
          · replace c14 := Bool.eq_false_iff.mpr c14
            subst c14
            have H1 : ((foolscapref04_Names.f).bind fun t157 => (foolscapref04_Read.l0 kj9 a0 t157 1)) = some (r1, r2, r3, r4, r5, r6) := by rw [if_neg (show ¬ (false = true) by decide)] at H; exact H
            clear H
            have H := H1
            clear H1
            replace H := Option.bind_eq_some_iff.mp H
            obtain ⟨t157, A160, H⟩ := H
            replace H : (foolscapref04_Read.l0 kj9 a0 t157 1) = some (r1, r2, r3, r4, r5, r6) := H
            have A16 := Aside0.mk A160
            clear A160
            have H' := Aside0.mk H
            clear H
            go_wp2_with (first | ((with_reducible refine gate_callee (f := 35) rfl ?_); refine goesL_ (some 32) rfl rfl Tryz.func35 (by kernel_rfl) rfl #[] rfl (by (try simp only [List.map_toArray, List.map_cons, List.map_nil]); first | done | rfl | (simp only [List.length_drop, List.length_take]; rfl) | (simp only [ByteArray.size_append, Int.natCast_add]; done) | (simp only [ByteArray.size_append, Int.natCast_add]; rfl) | (simp only [Array.mk.injEq, List.cons.injEq, Value.int.injEq, true_and, and_true]; (try simp only [mx, mn, wrap64] at *); omega)) ?_; (with_reducible refine (foolscapref04_Names.calls  t157 _ A16.out).mono ?_); rintro e w17 ⟨v158, rfl, ho0, hb⟩; refine ⟨_, rfl, ?_⟩; have n0_ := Aside0.mk (Kd.R_lower ho0 (below_size (by repeat (first | (with_reducible first | exact HB.out | apply below_alloc | apply pw_below_drewN | apply below_drew1 | refine below_set ?_ GE153.out) | exact HB.out)))); have n1_ := Aside0.mk (blk_below (g := gb153) (o := .cells #[.int .i64 0, .int .i64 0, .string (⟨#[]⟩ : ByteArray), .bool false, .int .i64 0] 25 (0, 0)) (by (with_reducible repeat (first | refine blk_drewN ?_ _ | refine blk_drew ?_ | refine blk_alloc ?_ _)); exact BK153.out) hb); have n2_ := Aside0.mk (below_step (by repeat (first | (with_reducible first | exact HB.out | apply below_alloc | apply pw_below_drewN | apply below_drew1 | refine below_set ?_ GE153.out) | exact HB.out)) hb); clear BK153; clear HB; have HO159 := n0_; have BK153 := n1_; have HB := n2_; clear n0_ n1_ n2_; (try clear hb); (try clear hb2); (try clear hk); (try clear hi); (try clear ho0)))
            go_loopg [8] kj9 (fun kq v8 w' => ∃ (x8_2 : Int) (x154000_2 : Int) (x154001_2 : Int) (x154002_2 : ByteArray) (x154003_2 : Bool) (x154004_2 : Int), v8 = .int .i64 x8_2 ∧ Aside0 (foolscapref04_Read.l0 kq a0 t157 x8_2 = some (r1, r2, r3, r4, r5, r6)) ∧ Aside0 (kq ≤ kj9) ∧ Aside0 (Kd.R Kd.string 9 w' w.heap.size (fun _ => True) v158 t157) ∧ Aside0 (w'.heap[gb153]? = some (.cells #[.int .i64 x154000_2, .int .i64 x154001_2, .string x154002_2, .bool x154003_2, .int .i64 x154004_2] 25 (0, 0))) ∧ Aside0 (Below w.heap.size w w'))
            case atStart => exact ⟨(1), (0), (0), ((⟨#[]⟩ : ByteArray)), (false), (0), (by first | rfl | (simp; done) | (simp [*]; done)), H', ⟨Nat.le_refl _⟩, ⟨by (with_reducible repeat (first | apply Kd.R_alloc | apply Kd.R_drewN | apply Kd.R_drew)); exact HO159.out⟩, ⟨by (with_reducible repeat (first | refine blk_drewN ?_ _ | refine blk_drew ?_ | refine blk_alloc ?_ _)); exact BK153.out⟩, ⟨by repeat (first | (with_reducible first | exact HB.out | apply below_alloc | apply pw_below_drewN | apply below_drew1 | refine below_set ?_ GE153.out) | exact HB.out)⟩⟩
            case round =>
              clear H'
              try clear c1
              try clear c2
              try clear c2b0
              try clear c2b1
              try clear p2
              try clear c3
              try clear c6
              try clear c6b0
              try clear c6b1
              try clear p6
              try clear c13
              try clear c13b0
              try clear c13b1
              try clear c14
              try clear c16
              try clear hcz15_0
              try clear hcz15_1
              try clear hcz15_2
              try clear hcz15_3
              try clear hcz15_4
              try clear hcz4_0
              try clear hcz4_1
              try clear hcz4_2
              try clear hcz4_3
              try clear hcz4_4
              try clear hcz8_0
              try clear hcz8_1
              try clear hcz8_2
              try clear hcz8_3
              try clear hcz8_4
              try clear hfz15_0
              try clear hfz15_1
              try clear hfz15_2
              try clear hfz15_3
              try clear hfz15_4
              try clear hfz4_0
              try clear hfz4_1
              try clear hfz4_2
              try clear hfz4_3
              try clear hfz4_4
              try clear hfz8_0
              try clear hfz8_1
              try clear hfz8_2
              try clear hfz8_3
              try clear hfz8_4
              try clear p2
              try clear p6
              obtain ⟨x8_2, x154000_2, x154001_2, x154002_2, x154003_2, x154004_2, rfl, HA, HK2, HO_7, BK153, HB⟩ := hrel
              cases gk with
              | zero => exact absurd HA.out (by simp [foolscapref04_Read.l0])
              | succ k2 =>
                have H := HA.out
                clear HA
                simp only [foolscapref04_Read.l0] at H
                by_cases c18 : x8_2 < (t157.length : Int)
                · rw [if_pos c18] at H
                  have c18b0 : decide (x8_2 < (t157.length : Int)) = true := decide_eq_true c18
                  clear c18
                  by_cases c19 : 0 ≤ x8_2
                  · rw [if_pos c19] at H
                    have c19b0 : decide (0 ≤ x8_2) = true := decide_eq_true c19
                    clear c19
                    by_cases c20 : (rdOf ByteArray.empty t157 x8_2).toList = a0.toList
                    · rw [if_pos c20] at H
                      have c20b0 : ((rdOf ByteArray.empty t157 x8_2).toList == a0.toList) = true := beq_iff_eq.mpr c20
                      have c20b1 : ((rdOf ByteArray.empty t157 x8_2).toList != a0.toList) = false := bne_eq_false_iff_eq.mpr c20
                      clear c20
                      simp only [Option.some.injEq, Prod.mk.injEq] at H
                      obtain ⟨rfl, rfl, rfl, rfl, rfl, rfl⟩ := H
                      obtain ⟨Ao21, co21, eo21⟩ := Kd.R_slice HO_7.out
                      subst eo21
                      have p160 : 0 ≤ (x8_2 : Int) := of_decide_eq_true (by first | (with_reducible assumption) | assumption)
                      have q160 : x8_2 < (t157.length : Int) := of_decide_eq_true (by first | (with_reducible assumption) | assumption)
                      obtain ⟨ad160, e160, hx160_0⟩ := Kd.at_string (Kd.R_reads' HO_7.out).2.2 x8_2 p160 q160
                      cases e160
                      replace p160 := eq_true p160
                      replace q160 := eq_true q160
                      have hcz22_0 : wr.cell? ⟨gb153, 0, none⟩ = some (.int .i64 x154000_2) := (blk_cell BK153.out 0).trans rfl
                      have hcz22_1 : wr.cell? ⟨gb153, 1, none⟩ = some (.int .i64 x154001_2) := (blk_cell BK153.out 1).trans rfl
                      have hcz22_2 : wr.cell? ⟨gb153, 2, none⟩ = some (.string x154002_2) := (blk_cell BK153.out 2).trans rfl
                      have hcz22_3 : wr.cell? ⟨gb153, 3, none⟩ = some (.bool x154003_2) := (blk_cell BK153.out 3).trans rfl
                      have hcz22_4 : wr.cell? ⟨gb153, 4, none⟩ = some (.int .i64 x154004_2) := (blk_cell BK153.out 4).trans rfl
                      have hfz22_0 := blk_frozen BK153.out 0
                      have hfz22_1 := blk_frozen BK153.out 1
                      have hfz22_2 := blk_frozen BK153.out 2
                      have hfz22_3 := blk_frozen BK153.out 3
                      have hfz22_4 := blk_frozen BK153.out 4
                      go_wp2
                      refine bodyPost_ret (results_ct rfl _ _ gb153 25 #[.int .i64 4, .int .i64 0, .string (⟨#[]⟩ : ByteArray), .bool false, .int .i64 x8_2] (0, 0) _ rfl (by (with_reducible repeat (first | refine blk_drewN ?_ _ | refine blk_drew ?_ | refine blk_alloc ?_ _)); refine blk_put (cs := #[.int .i64 4, .int .i64 0, .string (⟨#[]⟩ : ByteArray), .bool false, .int .i64 x154004_2]) ?_ 4 _ rfl; (with_reducible repeat (first | refine blk_drewN ?_ _ | refine blk_drew ?_ | refine blk_alloc ?_ _)); refine blk_put (cs := #[.int .i64 4, .int .i64 0, .string (⟨#[]⟩ : ByteArray), .bool x154003_2, .int .i64 x154004_2]) ?_ 3 _ rfl; (with_reducible repeat (first | refine blk_drewN ?_ _ | refine blk_drew ?_ | refine blk_alloc ?_ _)); refine blk_put (cs := #[.int .i64 4, .int .i64 0, .string x154002_2, .bool x154003_2, .int .i64 x154004_2]) ?_ 2 _ rfl; (with_reducible repeat (first | refine blk_drewN ?_ _ | refine blk_drew ?_ | refine blk_alloc ?_ _)); refine blk_put (cs := #[.int .i64 4, .int .i64 x154001_2, .string x154002_2, .bool x154003_2, .int .i64 x154004_2]) ?_ 1 _ rfl; (with_reducible repeat (first | refine blk_drewN ?_ _ | refine blk_drew ?_ | refine blk_alloc ?_ _)); refine blk_put (cs := #[.int .i64 x154000_2, .int .i64 x154001_2, .string x154002_2, .bool x154003_2, .int .i64 x154004_2]) ?_ 0 _ rfl; (with_reducible repeat (first | refine blk_drewN ?_ _ | refine blk_drew ?_ | refine blk_alloc ?_ _)); exact BK153.out) Tryz.underlying25 rfl (by kernel_rfl)) rfl ?_
                      exact ⟨by first | rfl | (simp [errW_none, errW_some] <;> rfl) | (simp [*, errW_none, errW_some] <;> rfl), by repeat (first | (with_reducible first | exact HB.out | apply below_alloc | apply pw_below_drewN | apply below_drew1 | refine below_set ?_ GE153.out) | exact HB.out)⟩
                    · rw [if_neg c20] at H
                      have c20b0 : ((rdOf ByteArray.empty t157 x8_2).toList == a0.toList) = false := beq_eq_false_iff_ne.mpr c20
                      have c20b1 : ((rdOf ByteArray.empty t157 x8_2).toList != a0.toList) = true := bne_iff_ne.mpr c20
                      have H' := Aside0.mk H
                      clear H
                      obtain ⟨Ao23, co23, eo23⟩ := Kd.R_slice HO_7.out
                      subst eo23
                      have p160 : 0 ≤ (x8_2 : Int) := of_decide_eq_true (by first | (with_reducible assumption) | assumption)
                      have q160 : x8_2 < (t157.length : Int) := of_decide_eq_true (by first | (with_reducible assumption) | assumption)
                      obtain ⟨ad160, e160, hx160_0⟩ := Kd.at_string (Kd.R_reads' HO_7.out).2.2 x8_2 p160 q160
                      cases e160
                      replace p160 := eq_true p160
                      replace q160 := eq_true q160
                      go_wp2
                      go_roundg k2
                      case measure => have := HJ9.out; have := HK2.out; omega
                      case rel => exact ⟨(wrap64 (x8_2 + 1)), (x154000_2), (x154001_2), (x154002_2), (x154003_2), (x154004_2), (by first | rfl | (simp; done) | (simp [*]; done)), H', ⟨by have := HJ9.out; have := HK2.out; omega⟩, ⟨by (with_reducible repeat (first | apply Kd.R_alloc | apply Kd.R_drewN | apply Kd.R_drew)); exact HO_7.out⟩, ⟨by (with_reducible repeat (first | refine blk_drewN ?_ _ | refine blk_drew ?_ | refine blk_alloc ?_ _)); exact BK153.out⟩, ⟨by repeat (first | (with_reducible first | exact HB.out | apply below_alloc | apply pw_below_drewN | apply below_drew1 | refine below_set ?_ GE153.out) | exact HB.out)⟩⟩
                  · rw [if_neg c19] at H
                    exact absurd H (by simp)
                · rw [if_neg c18] at H
                  have c18b0 : decide (x8_2 < (t157.length : Int)) = false := decide_eq_false c18
                  clear c18
                  by_cases c24 : (a0.size : Int) > 255
                  · rw [if_pos c24] at H
                    have c24b0 : decide (255 < (a0.size : Int)) = true := decide_eq_true c24
                    have c24b1 : decide (255 < a0.size) = true := decide_eq_true (by omega)
                    clear c24
                    simp only [Option.some.injEq, Prod.mk.injEq] at H
                    obtain ⟨rfl, rfl, rfl, rfl, rfl, rfl⟩ := H
                    obtain ⟨Ao25, co25, eo25⟩ := Kd.R_slice HO_7.out
                    subst eo25
                    have hcz26_0 : wr.cell? ⟨gb153, 0, none⟩ = some (.int .i64 x154000_2) := (blk_cell BK153.out 0).trans rfl
                    have hcz26_1 : wr.cell? ⟨gb153, 1, none⟩ = some (.int .i64 x154001_2) := (blk_cell BK153.out 1).trans rfl
                    have hcz26_2 : wr.cell? ⟨gb153, 2, none⟩ = some (.string x154002_2) := (blk_cell BK153.out 2).trans rfl
                    have hcz26_3 : wr.cell? ⟨gb153, 3, none⟩ = some (.bool x154003_2) := (blk_cell BK153.out 3).trans rfl
                    have hcz26_4 : wr.cell? ⟨gb153, 4, none⟩ = some (.int .i64 x154004_2) := (blk_cell BK153.out 4).trans rfl
                    have hfz26_0 := blk_frozen BK153.out 0
                    have hfz26_1 := blk_frozen BK153.out 1
                    have hfz26_2 := blk_frozen BK153.out 2
                    have hfz26_3 := blk_frozen BK153.out 3
                    have hfz26_4 := blk_frozen BK153.out 4
                    go_wp2
                    refine bodyPost_ret (results_ct rfl _ _ gb153 25 #[.int .i64 0, .int .i64 0, .string (⟨#[]⟩ : ByteArray), .bool false, .int .i64 0] (0, 0) _ rfl (by (with_reducible repeat (first | refine blk_drewN ?_ _ | refine blk_drew ?_ | refine blk_alloc ?_ _)); refine blk_put (cs := #[.int .i64 0, .int .i64 0, .string (⟨#[]⟩ : ByteArray), .bool false, .int .i64 x154004_2]) ?_ 4 _ rfl; (with_reducible repeat (first | refine blk_drewN ?_ _ | refine blk_drew ?_ | refine blk_alloc ?_ _)); refine blk_put (cs := #[.int .i64 0, .int .i64 0, .string (⟨#[]⟩ : ByteArray), .bool x154003_2, .int .i64 x154004_2]) ?_ 3 _ rfl; (with_reducible repeat (first | refine blk_drewN ?_ _ | refine blk_drew ?_ | refine blk_alloc ?_ _)); refine blk_put (cs := #[.int .i64 0, .int .i64 0, .string x154002_2, .bool x154003_2, .int .i64 x154004_2]) ?_ 2 _ rfl; (with_reducible repeat (first | refine blk_drewN ?_ _ | refine blk_drew ?_ | refine blk_alloc ?_ _)); refine blk_put (cs := #[.int .i64 0, .int .i64 x154001_2, .string x154002_2, .bool x154003_2, .int .i64 x154004_2]) ?_ 1 _ rfl; (with_reducible repeat (first | refine blk_drewN ?_ _ | refine blk_drew ?_ | refine blk_alloc ?_ _)); refine blk_put (cs := #[.int .i64 x154000_2, .int .i64 x154001_2, .string x154002_2, .bool x154003_2, .int .i64 x154004_2]) ?_ 0 _ rfl; (with_reducible repeat (first | refine blk_drewN ?_ _ | refine blk_drew ?_ | refine blk_alloc ?_ _)); exact BK153.out) Tryz.underlying25 rfl (by kernel_rfl)) rfl ?_
                    exact ⟨by first | rfl | (simp [errW_none, errW_some] <;> rfl) | (simp [*, errW_none, errW_some] <;> rfl), by repeat (first | (with_reducible first | exact HB.out | apply below_alloc | apply pw_below_drewN | apply below_drew1 | refine below_set ?_ GE153.out) | exact HB.out)⟩
                  · rw [if_neg c24] at H
                    have c24b0 : decide (255 < (a0.size : Int)) = false := decide_eq_false c24
                    have c24b1 : decide (255 < a0.size) = false := decide_eq_false (by omega)
                    clear c24
                    simp only [Option.some.injEq, Prod.mk.injEq] at H
                    obtain ⟨rfl, rfl, rfl, rfl, rfl, rfl⟩ := H
                    obtain ⟨Ao27, co27, eo27⟩ := Kd.R_slice HO_7.out
                    subst eo27
                    have hcz28_0 : wr.cell? ⟨gb153, 0, none⟩ = some (.int .i64 x154000_2) := (blk_cell BK153.out 0).trans rfl
                    have hcz28_1 : wr.cell? ⟨gb153, 1, none⟩ = some (.int .i64 x154001_2) := (blk_cell BK153.out 1).trans rfl
                    have hcz28_2 : wr.cell? ⟨gb153, 2, none⟩ = some (.string x154002_2) := (blk_cell BK153.out 2).trans rfl
                    have hcz28_3 : wr.cell? ⟨gb153, 3, none⟩ = some (.bool x154003_2) := (blk_cell BK153.out 3).trans rfl
                    have hcz28_4 : wr.cell? ⟨gb153, 4, none⟩ = some (.int .i64 x154004_2) := (blk_cell BK153.out 4).trans rfl
                    have hfz28_0 := blk_frozen BK153.out 0
                    have hfz28_1 := blk_frozen BK153.out 1
                    have hfz28_2 := blk_frozen BK153.out 2
                    have hfz28_3 := blk_frozen BK153.out 3
                    have hfz28_4 := blk_frozen BK153.out 4
                    go_wp2
                    refine bodyPost_ret (results_ct rfl _ _ gb153 25 #[.int .i64 2, .int .i64 0, .string a0, .bool false, .int .i64 0] (0, 0) _ rfl (by (with_reducible repeat (first | refine blk_drewN ?_ _ | refine blk_drew ?_ | refine blk_alloc ?_ _)); refine blk_put (cs := #[.int .i64 2, .int .i64 0, .string a0, .bool false, .int .i64 x154004_2]) ?_ 4 _ rfl; (with_reducible repeat (first | refine blk_drewN ?_ _ | refine blk_drew ?_ | refine blk_alloc ?_ _)); refine blk_put (cs := #[.int .i64 2, .int .i64 0, .string a0, .bool x154003_2, .int .i64 x154004_2]) ?_ 3 _ rfl; (with_reducible repeat (first | refine blk_drewN ?_ _ | refine blk_drew ?_ | refine blk_alloc ?_ _)); refine blk_put (cs := #[.int .i64 2, .int .i64 0, .string x154002_2, .bool x154003_2, .int .i64 x154004_2]) ?_ 2 _ rfl; (with_reducible repeat (first | refine blk_drewN ?_ _ | refine blk_drew ?_ | refine blk_alloc ?_ _)); refine blk_put (cs := #[.int .i64 2, .int .i64 x154001_2, .string x154002_2, .bool x154003_2, .int .i64 x154004_2]) ?_ 1 _ rfl; (with_reducible repeat (first | refine blk_drewN ?_ _ | refine blk_drew ?_ | refine blk_alloc ?_ _)); refine blk_put (cs := #[.int .i64 x154000_2, .int .i64 x154001_2, .string x154002_2, .bool x154003_2, .int .i64 x154004_2]) ?_ 0 _ rfl; (with_reducible repeat (first | refine blk_drewN ?_ _ | refine blk_drew ?_ | refine blk_alloc ?_ _)); exact BK153.out) Tryz.underlying25 rfl (by kernel_rfl)) rfl ?_
                    exact ⟨by first | rfl | (simp [errW_none, errW_some] <;> rfl) | (simp [*, errW_none, errW_some] <;> rfl), by repeat (first | (with_reducible first | exact HB.out | apply below_alloc | apply pw_below_drewN | apply below_drew1 | refine below_set ?_ GE153.out) | exact HB.out)⟩
def api_Code.l0 : Nat → Int → List Int → Int → Int → Option (Int)
  | 0, _, _, _, _ => none
  | k + 1, x3, x6, x7, x8 => if x8 < x7 then (if 0 ≤ x8 then (if x8 < (x6.length : Int) then (if (rd x6 x8) = x3 then (api_Code.l0 k x3 x6 x7 (wrap64 (x8 + 1))) else (some (rd x6 x8))) else (none)) else (none)) else (some x3)
def api_Code.f (k : Nat) (l0 : List Int) : Option (Int) := api_Code.l0 k 0 l0 (l0.length : Int) 0
set_option maxHeartbeats 8000000 in
set_option maxRecDepth 100000 in
theorem api_Code.calls (k : Nat) (A0 : Option Addr) (c0 : Nat) (l0 : List Int) (r : Int) (w : World) (hr0 : Kd.C (Kd.int .i64) w A0 l0.length l0) (hc0 : l0.length ≤ c0) (h : api_Code.f k l0 = some r) :
    Calls Tryz.prog 40 #[.slice A0 l0.length c0] w fun e w' => e = .returned (.int .i64 r) ∧ Drawn0 w w' := by
  have HR0 := Aside0.mk hr0
  have HC0 := Aside0.mk hc0
  clear hr0 hc0
  have H : (api_Code.l0 k 0 l0 (l0.length : Int) 0) = some r := h
  clear h
  have H' := Aside0.mk H
  clear H
  go_enter Tryz.func40, Tryz.ntmps40
  go_wp2
  go_loopg [8] k (fun kq v8 w' => ∃ (x8_1 : Int), v8 = .int .i64 x8_1 ∧ Aside0 (api_Code.l0 kq 0 l0 (l0.length : Int) x8_1 = some r) ∧ Aside0 (kq ≤ k) ∧ Drawn0 w w')
  case atStart => exact ⟨(0), (by first | rfl | (simp; done) | (simp [*]; done)), H', ⟨Nat.le_refl _⟩, by repeat (first | exact Drawn0.refl _ | apply Drawn0.step)⟩
  case round =>
    clear H'
    obtain ⟨x8_1, rfl, HA, HK1, ⟨m1, rfl⟩⟩ := hrel
    cases gk with
    | zero => exact absurd HA.out (by simp [api_Code.l0])
    | succ k1 =>
      have H := HA.out
      clear HA
      simp only [api_Code.l0] at H
      by_cases c2 : x8_1 < (l0.length : Int)
      · rw [if_pos c2] at H
        have c2b0 : decide (x8_1 < (l0.length : Int)) = true := decide_eq_true c2
        clear c2
        by_cases c3 : 0 ≤ x8_1
        · rw [if_pos c3] at H
          have c3b0 : decide (0 ≤ x8_1) = true := decide_eq_true c3
          clear c3
          by_cases c4 : x8_1 < (l0.length : Int)
          · rw [if_pos c4] at H
            have c4b0 : decide (x8_1 < (l0.length : Int)) = true := decide_eq_true c4
            clear c4
            by_cases c5 : (rd l0 x8_1) = 0
            · rw [if_pos c5] at H
              have c5b0 : ((rd l0 x8_1) == 0) = true := beq_iff_eq.mpr c5
              have c5b1 : ((rd l0 x8_1) != 0) = false := bne_eq_false_iff_eq.mpr c5
              clear c5
              have H' := Aside0.mk H
              clear H
              have p161 : 0 ≤ (x8_1 : Int) := of_decide_eq_true (by first | (with_reducible assumption) | assumption)
              have q161 : x8_1 < (l0.length : Int) := of_decide_eq_true (by first | (with_reducible assumption) | assumption)
              obtain ⟨ad161, e161, hx161_0⟩ := Kd.at_int HR0.out x8_1 p161 q161
              cases e161
              replace p161 := eq_true p161
              replace q161 := eq_true q161
              go_wp2
              go_roundg k1
              case measure => have := HK1.out; omega
              case rel => exact ⟨(wrap64 (x8_1 + 1)), (by first | rfl | (simp; done) | (simp [*]; done)), H', ⟨by have := HK1.out; omega⟩, by repeat (first | exact Drawn0.refl _ | apply Drawn0.step)⟩
            · rw [if_neg c5] at H
              have c5b0 : ((rd l0 x8_1) == 0) = false := beq_eq_false_iff_ne.mpr c5
              have c5b1 : ((rd l0 x8_1) != 0) = true := bne_iff_ne.mpr c5
              obtain rfl := Option.some.inj H
              have p161 : 0 ≤ (x8_1 : Int) := of_decide_eq_true (by first | (with_reducible assumption) | assumption)
              have q161 : x8_1 < (l0.length : Int) := of_decide_eq_true (by first | (with_reducible assumption) | assumption)
              obtain ⟨ad161, e161, hx161_0⟩ := Kd.at_int HR0.out x8_1 p161 q161
              cases e161
              replace p161 := eq_true p161
              replace q161 := eq_true q161
              go_wp2
              go_ret
              exact ⟨by first | rfl | (simp; done) | (simp [*]; done), by repeat (first | exact Drawn0.refl _ | apply Drawn0.step)⟩
          · rw [if_neg c4] at H
            exact absurd H (by simp)
        · rw [if_neg c3] at H
          exact absurd H (by simp)
      · rw [if_neg c2] at H
        have c2b0 : decide (x8_1 < (l0.length : Int)) = false := decide_eq_false c2
        clear c2
        obtain rfl := Option.some.inj H
        go_wp2
        go_ret
        exact ⟨by first | rfl | (simp; done) | (simp [*]; done), by repeat (first | exact Drawn0.refl _ | apply Drawn0.step)⟩
def cmp_Or_int.l0 : Nat → Int → List Int → Int → Int → Option (Int)
  | 0, _, _, _, _ => none
  | k + 1, x3, x6, x7, x8 => if x8 < x7 then (if 0 ≤ x8 then (if x8 < (x6.length : Int) then (if (rd x6 x8) = x3 then (cmp_Or_int.l0 k x3 x6 x7 (wrap64 (x8 + 1))) else (some (rd x6 x8))) else (none)) else (none)) else (some x3)
def cmp_Or_int.f (k : Nat) (l0 : List Int) : Option (Int) := cmp_Or_int.l0 k 0 l0 (l0.length : Int) 0
set_option maxHeartbeats 8000000 in
set_option maxRecDepth 100000 in
theorem cmp_Or_int.calls (k : Nat) (A0 : Option Addr) (c0 : Nat) (l0 : List Int) (r : Int) (w : World) (hr0 : Kd.C (Kd.int .i64) w A0 l0.length l0) (hc0 : l0.length ≤ c0) (h : cmp_Or_int.f k l0 = some r) :
    Calls Tryz.prog 41 #[.slice A0 l0.length c0] w fun e w' => e = .returned (.int .i64 r) ∧ Drawn0 w w' := by
  have HR0 := Aside0.mk hr0
  have HC0 := Aside0.mk hc0
  clear hr0 hc0
  have H : (cmp_Or_int.l0 k 0 l0 (l0.length : Int) 0) = some r := h
  clear h
  have H' := Aside0.mk H
  clear H
  go_enter Tryz.func41, Tryz.ntmps41
  go_wp2
  go_loopg [8] k (fun kq v8 w' => ∃ (x8_1 : Int), v8 = .int .i64 x8_1 ∧ Aside0 (cmp_Or_int.l0 kq 0 l0 (l0.length : Int) x8_1 = some r) ∧ Aside0 (kq ≤ k) ∧ Drawn0 w w')
  case atStart => exact ⟨(0), (by first | rfl | (simp; done) | (simp [*]; done)), H', ⟨Nat.le_refl _⟩, by repeat (first | exact Drawn0.refl _ | apply Drawn0.step)⟩
  case round =>
    clear H'
    obtain ⟨x8_1, rfl, HA, HK1, ⟨m1, rfl⟩⟩ := hrel
    cases gk with
    | zero => exact absurd HA.out (by simp [cmp_Or_int.l0])
    | succ k1 =>
      have H := HA.out
      clear HA
      simp only [cmp_Or_int.l0] at H
      by_cases c2 : x8_1 < (l0.length : Int)
      · rw [if_pos c2] at H
        have c2b0 : decide (x8_1 < (l0.length : Int)) = true := decide_eq_true c2
        clear c2
        by_cases c3 : 0 ≤ x8_1
        · rw [if_pos c3] at H
          have c3b0 : decide (0 ≤ x8_1) = true := decide_eq_true c3
          clear c3
          by_cases c4 : x8_1 < (l0.length : Int)
          · rw [if_pos c4] at H
            have c4b0 : decide (x8_1 < (l0.length : Int)) = true := decide_eq_true c4
            clear c4
            by_cases c5 : (rd l0 x8_1) = 0
            · rw [if_pos c5] at H
              have c5b0 : ((rd l0 x8_1) == 0) = true := beq_iff_eq.mpr c5
              have c5b1 : ((rd l0 x8_1) != 0) = false := bne_eq_false_iff_eq.mpr c5
              clear c5
              have H' := Aside0.mk H
              clear H
              have p162 : 0 ≤ (x8_1 : Int) := of_decide_eq_true (by first | (with_reducible assumption) | assumption)
              have q162 : x8_1 < (l0.length : Int) := of_decide_eq_true (by first | (with_reducible assumption) | assumption)
              obtain ⟨ad162, e162, hx162_0⟩ := Kd.at_int HR0.out x8_1 p162 q162
              cases e162
              replace p162 := eq_true p162
              replace q162 := eq_true q162
              go_wp2
              go_roundg k1
              case measure => have := HK1.out; omega
              case rel => exact ⟨(wrap64 (x8_1 + 1)), (by first | rfl | (simp; done) | (simp [*]; done)), H', ⟨by have := HK1.out; omega⟩, by repeat (first | exact Drawn0.refl _ | apply Drawn0.step)⟩
            · rw [if_neg c5] at H
              have c5b0 : ((rd l0 x8_1) == 0) = false := beq_eq_false_iff_ne.mpr c5
              have c5b1 : ((rd l0 x8_1) != 0) = true := bne_iff_ne.mpr c5
              obtain rfl := Option.some.inj H
              have p162 : 0 ≤ (x8_1 : Int) := of_decide_eq_true (by first | (with_reducible assumption) | assumption)
              have q162 : x8_1 < (l0.length : Int) := of_decide_eq_true (by first | (with_reducible assumption) | assumption)
              obtain ⟨ad162, e162, hx162_0⟩ := Kd.at_int HR0.out x8_1 p162 q162
              cases e162
              replace p162 := eq_true p162
              replace q162 := eq_true q162
              go_wp2
              go_ret
              exact ⟨by first | rfl | (simp; done) | (simp [*]; done), by repeat (first | exact Drawn0.refl _ | apply Drawn0.step)⟩
          · rw [if_neg c4] at H
            exact absurd H (by simp)
        · rw [if_neg c3] at H
          exact absurd H (by simp)
      · rw [if_neg c2] at H
        have c2b0 : decide (x8_1 < (l0.length : Int)) = false := decide_eq_false c2
        clear c2
        obtain rfl := Option.some.inj H
        go_wp2
        go_ret
        exact ⟨by first | rfl | (simp; done) | (simp [*]; done), by repeat (first | exact Drawn0.refl _ | apply Drawn0.step)⟩
def api_Kind_60.f (a0 : Int) : Option (Bool) := some (a0 != a0)
set_option maxHeartbeats 8000000 in
set_option maxRecDepth 100000 in
theorem api_Kind_60.calls (a0 : Int) (r : Bool) (w : World) (h : api_Kind_60.f a0 = some r) :
    Calls Tryz.prog 60 #[.int .i64 a0] w fun e w' => e = .returned (.bool r) ∧ Drawn0 w w' := by
  have H : (some (a0 != a0)) = some r := h
  clear h
  obtain rfl := Option.some.inj H
  go_enter Tryz.func60, Tryz.ntmps60
  go_wp2
  go_ret
  exact ⟨by first | rfl | (simp; done) | (simp [*]; done), by repeat (first | exact Drawn0.refl _ | apply Drawn0.step)⟩
def api_Kind_42.f (a0 : Int) (a1 : Int) : Option (Int) := (api_Kind_60.f a0).bind fun t163 => ((api_Kind_60.f a1).bind fun t164 => (if t163 = true then (if t164 = true then (some 0) else (some (-1))) else (if t164 = true then (some 1) else (if a0 < a1 then (some (-1)) else (if a0 > a1 then (some 1) else (some 0))))))
set_option maxHeartbeats 8000000 in
set_option maxRecDepth 100000 in
theorem api_Kind_42.calls (a0 : Int) (a1 : Int) (r : Int) (w : World) (h : api_Kind_42.f a0 a1 = some r) :
    Calls Tryz.prog 42 #[.int .i64 a0, .int .i64 a1] w fun e w' => e = .returned (.int .i64 r) ∧ Drawn0 w w' := by
  have H : ((api_Kind_60.f a0).bind fun t163 => ((api_Kind_60.f a1).bind fun t164 => (if t163 = true then (if t164 = true then (some 0) else (some (-1))) else (if t164 = true then (some 1) else (if a0 < a1 then (some (-1)) else (if a0 > a1 then (some 1) else (some 0))))))) = some r := h
  clear h
  replace H := Option.bind_eq_some_iff.mp H
  obtain ⟨t163, A30, H⟩ := H
  replace H : ((api_Kind_60.f a1).bind fun t164 => (if t163 = true then (if t164 = true then (some 0) else (some (-1))) else (if t164 = true then (some 1) else (if a0 < a1 then (some (-1)) else (if a0 > a1 then (some 1) else (some 0)))))) = some r := H
  have A3 := Aside0.mk A30
  clear A30
  replace H := Option.bind_eq_some_iff.mp H
  obtain ⟨t164, A40, H⟩ := H
  replace H : (if t163 = true then (if t164 = true then (some 0) else (some (-1))) else (if t164 = true then (some 1) else (if a0 < a1 then (some (-1)) else (if a0 > a1 then (some 1) else (some 0))))) = some r := H
  have A4 := Aside0.mk A40
  clear A40
  by_cases c5 : t163 = true
  · subst c5
    have H1 : (if t164 = true then (some 0) else (some (-1))) = some r := by rw [if_pos rfl] at H; exact H
    clear H
    have H := H1
    clear H1
    by_cases c6 : t164 = true
    · subst c6
      have H1 : (some 0) = some r := by rw [if_pos rfl] at H; exact H
      clear H
      have H := H1
      clear H1
      obtain rfl := Option.some.inj H
      go_enter Tryz.func42, Tryz.ntmps42
      go_wp2_with (first | ((with_reducible refine gate_callee (f := 60) rfl ?_); refine goesL_ (some 8) rfl rfl Tryz.func60 (by kernel_rfl) rfl #[.int .i64 a0] rfl (by (try simp only [List.map_toArray, List.map_cons, List.map_nil]); first | done | rfl | (simp only [List.length_drop, List.length_take]; rfl) | (simp only [ByteArray.size_append, Int.natCast_add]; done) | (simp only [ByteArray.size_append, Int.natCast_add]; rfl) | (simp only [Array.mk.injEq, List.cons.injEq, Value.int.injEq, true_and, and_true]; (try simp only [mx, mn, wrap64] at *); omega)) ?_; (with_reducible refine (api_Kind_60.calls a0 true _ A3.out).mono ?_); rintro e w' ⟨rfl, ⟨nd, rfl⟩⟩; refine ⟨_, rfl, ?_⟩) | ((with_reducible refine gate_callee (f := 60) rfl ?_); refine goesL_ (some 10) rfl rfl Tryz.func60 (by kernel_rfl) rfl #[.int .i64 a1] rfl (by (try simp only [List.map_toArray, List.map_cons, List.map_nil]); first | done | rfl | (simp only [List.length_drop, List.length_take]; rfl) | (simp only [ByteArray.size_append, Int.natCast_add]; done) | (simp only [ByteArray.size_append, Int.natCast_add]; rfl) | (simp only [Array.mk.injEq, List.cons.injEq, Value.int.injEq, true_and, and_true]; (try simp only [mx, mn, wrap64] at *); omega)) ?_; (with_reducible refine (api_Kind_60.calls a1 true _ A4.out).mono ?_); rintro e w' ⟨rfl, ⟨nd, rfl⟩⟩; refine ⟨_, rfl, ?_⟩))
      go_ret
      exact ⟨by first | rfl | (simp; done) | (simp [*]; done), by repeat (first | exact Drawn0.refl _ | apply Drawn0.step)⟩
    · replace c6 := Bool.eq_false_iff.mpr c6
      subst c6
      have H1 : (some (-1)) = some r := by rw [if_neg (show ¬ (false = true) by decide)] at H; exact H
      clear H
      have H := H1
      clear H1
      obtain rfl := Option.some.inj H
      go_enter Tryz.func42, Tryz.ntmps42
      go_wp2_with (first | ((with_reducible refine gate_callee (f := 60) rfl ?_); refine goesL_ (some 8) rfl rfl Tryz.func60 (by kernel_rfl) rfl #[.int .i64 a0] rfl (by (try simp only [List.map_toArray, List.map_cons, List.map_nil]); first | done | rfl | (simp only [List.length_drop, List.length_take]; rfl) | (simp only [ByteArray.size_append, Int.natCast_add]; done) | (simp only [ByteArray.size_append, Int.natCast_add]; rfl) | (simp only [Array.mk.injEq, List.cons.injEq, Value.int.injEq, true_and, and_true]; (try simp only [mx, mn, wrap64] at *); omega)) ?_; (with_reducible refine (api_Kind_60.calls a0 true _ A3.out).mono ?_); rintro e w' ⟨rfl, ⟨nd, rfl⟩⟩; refine ⟨_, rfl, ?_⟩) | ((with_reducible refine gate_callee (f := 60) rfl ?_); refine goesL_ (some 10) rfl rfl Tryz.func60 (by kernel_rfl) rfl #[.int .i64 a1] rfl (by (try simp only [List.map_toArray, List.map_cons, List.map_nil]); first | done | rfl | (simp only [List.length_drop, List.length_take]; rfl) | (simp only [ByteArray.size_append, Int.natCast_add]; done) | (simp only [ByteArray.size_append, Int.natCast_add]; rfl) | (simp only [Array.mk.injEq, List.cons.injEq, Value.int.injEq, true_and, and_true]; (try simp only [mx, mn, wrap64] at *); omega)) ?_; (with_reducible refine (api_Kind_60.calls a1 false _ A4.out).mono ?_); rintro e w' ⟨rfl, ⟨nd, rfl⟩⟩; refine ⟨_, rfl, ?_⟩))
      go_ret
      exact ⟨by first | rfl | (simp; done) | (simp [*]; done), by repeat (first | exact Drawn0.refl _ | apply Drawn0.step)⟩
  · replace c5 := Bool.eq_false_iff.mpr c5
    subst c5
    have H1 : (if t164 = true then (some 1) else (if a0 < a1 then (some (-1)) else (if a0 > a1 then (some 1) else (some 0)))) = some r := by rw [if_neg (show ¬ (false = true) by decide)] at H; exact H
    clear H
    have H := H1
    clear H1
    by_cases c7 : t164 = true
    · subst c7
      have H1 : (some 1) = some r := by rw [if_pos rfl] at H; exact H
      clear H
      have H := H1
      clear H1
      obtain rfl := Option.some.inj H
      go_enter Tryz.func42, Tryz.ntmps42
      go_wp2_with (first | ((with_reducible refine gate_callee (f := 60) rfl ?_); refine goesL_ (some 8) rfl rfl Tryz.func60 (by kernel_rfl) rfl #[.int .i64 a0] rfl (by (try simp only [List.map_toArray, List.map_cons, List.map_nil]); first | done | rfl | (simp only [List.length_drop, List.length_take]; rfl) | (simp only [ByteArray.size_append, Int.natCast_add]; done) | (simp only [ByteArray.size_append, Int.natCast_add]; rfl) | (simp only [Array.mk.injEq, List.cons.injEq, Value.int.injEq, true_and, and_true]; (try simp only [mx, mn, wrap64] at *); omega)) ?_; (with_reducible refine (api_Kind_60.calls a0 false _ A3.out).mono ?_); rintro e w' ⟨rfl, ⟨nd, rfl⟩⟩; refine ⟨_, rfl, ?_⟩) | ((with_reducible refine gate_callee (f := 60) rfl ?_); refine goesL_ (some 10) rfl rfl Tryz.func60 (by kernel_rfl) rfl #[.int .i64 a1] rfl (by (try simp only [List.map_toArray, List.map_cons, List.map_nil]); first | done | rfl | (simp only [List.length_drop, List.length_take]; rfl) | (simp only [ByteArray.size_append, Int.natCast_add]; done) | (simp only [ByteArray.size_append, Int.natCast_add]; rfl) | (simp only [Array.mk.injEq, List.cons.injEq, Value.int.injEq, true_and, and_true]; (try simp only [mx, mn, wrap64] at *); omega)) ?_; (with_reducible refine (api_Kind_60.calls a1 true _ A4.out).mono ?_); rintro e w' ⟨rfl, ⟨nd, rfl⟩⟩; refine ⟨_, rfl, ?_⟩))
      go_ret
      exact ⟨by first | rfl | (simp; done) | (simp [*]; done), by repeat (first | exact Drawn0.refl _ | apply Drawn0.step)⟩
    · replace c7 := Bool.eq_false_iff.mpr c7
      subst c7
      have H1 : (if a0 < a1 then (some (-1)) else (if a0 > a1 then (some 1) else (some 0))) = some r := by rw [if_neg (show ¬ (false = true) by decide)] at H; exact H
      clear H
      have H := H1
      clear H1
      by_cases c8 : a0 < a1
      · rw [if_pos c8] at H
        have c8b0 : decide (a0 < a1) = true := decide_eq_true c8
        clear c8
        obtain rfl := Option.some.inj H
        go_enter Tryz.func42, Tryz.ntmps42
        go_wp2_with (first | ((with_reducible refine gate_callee (f := 60) rfl ?_); refine goesL_ (some 8) rfl rfl Tryz.func60 (by kernel_rfl) rfl #[.int .i64 a0] rfl (by (try simp only [List.map_toArray, List.map_cons, List.map_nil]); first | done | rfl | (simp only [List.length_drop, List.length_take]; rfl) | (simp only [ByteArray.size_append, Int.natCast_add]; done) | (simp only [ByteArray.size_append, Int.natCast_add]; rfl) | (simp only [Array.mk.injEq, List.cons.injEq, Value.int.injEq, true_and, and_true]; (try simp only [mx, mn, wrap64] at *); omega)) ?_; (with_reducible refine (api_Kind_60.calls a0 false _ A3.out).mono ?_); rintro e w' ⟨rfl, ⟨nd, rfl⟩⟩; refine ⟨_, rfl, ?_⟩) | ((with_reducible refine gate_callee (f := 60) rfl ?_); refine goesL_ (some 10) rfl rfl Tryz.func60 (by kernel_rfl) rfl #[.int .i64 a1] rfl (by (try simp only [List.map_toArray, List.map_cons, List.map_nil]); first | done | rfl | (simp only [List.length_drop, List.length_take]; rfl) | (simp only [ByteArray.size_append, Int.natCast_add]; done) | (simp only [ByteArray.size_append, Int.natCast_add]; rfl) | (simp only [Array.mk.injEq, List.cons.injEq, Value.int.injEq, true_and, and_true]; (try simp only [mx, mn, wrap64] at *); omega)) ?_; (with_reducible refine (api_Kind_60.calls a1 false _ A4.out).mono ?_); rintro e w' ⟨rfl, ⟨nd, rfl⟩⟩; refine ⟨_, rfl, ?_⟩))
        go_ret
        exact ⟨by first | rfl | (simp; done) | (simp [*]; done), by repeat (first | exact Drawn0.refl _ | apply Drawn0.step)⟩
      · rw [if_neg c8] at H
        have c8b0 : decide (a0 < a1) = false := decide_eq_false c8
        clear c8
        by_cases c9 : a0 > a1
        · rw [if_pos c9] at H
          have c9b0 : decide (a1 < a0) = true := decide_eq_true c9
          clear c9
          obtain rfl := Option.some.inj H
          go_enter Tryz.func42, Tryz.ntmps42
          go_wp2_with (first | ((with_reducible refine gate_callee (f := 60) rfl ?_); refine goesL_ (some 8) rfl rfl Tryz.func60 (by kernel_rfl) rfl #[.int .i64 a0] rfl (by (try simp only [List.map_toArray, List.map_cons, List.map_nil]); first | done | rfl | (simp only [List.length_drop, List.length_take]; rfl) | (simp only [ByteArray.size_append, Int.natCast_add]; done) | (simp only [ByteArray.size_append, Int.natCast_add]; rfl) | (simp only [Array.mk.injEq, List.cons.injEq, Value.int.injEq, true_and, and_true]; (try simp only [mx, mn, wrap64] at *); omega)) ?_; (with_reducible refine (api_Kind_60.calls a0 false _ A3.out).mono ?_); rintro e w' ⟨rfl, ⟨nd, rfl⟩⟩; refine ⟨_, rfl, ?_⟩) | ((with_reducible refine gate_callee (f := 60) rfl ?_); refine goesL_ (some 10) rfl rfl Tryz.func60 (by kernel_rfl) rfl #[.int .i64 a1] rfl (by (try simp only [List.map_toArray, List.map_cons, List.map_nil]); first | done | rfl | (simp only [List.length_drop, List.length_take]; rfl) | (simp only [ByteArray.size_append, Int.natCast_add]; done) | (simp only [ByteArray.size_append, Int.natCast_add]; rfl) | (simp only [Array.mk.injEq, List.cons.injEq, Value.int.injEq, true_and, and_true]; (try simp only [mx, mn, wrap64] at *); omega)) ?_; (with_reducible refine (api_Kind_60.calls a1 false _ A4.out).mono ?_); rintro e w' ⟨rfl, ⟨nd, rfl⟩⟩; refine ⟨_, rfl, ?_⟩))
          go_ret
          exact ⟨by first | rfl | (simp; done) | (simp [*]; done), by repeat (first | exact Drawn0.refl _ | apply Drawn0.step)⟩
        · rw [if_neg c9] at H
          have c9b0 : decide (a1 < a0) = false := decide_eq_false c9
          clear c9
          obtain rfl := Option.some.inj H
          go_enter Tryz.func42, Tryz.ntmps42
          go_wp2_with (first | ((with_reducible refine gate_callee (f := 60) rfl ?_); refine goesL_ (some 8) rfl rfl Tryz.func60 (by kernel_rfl) rfl #[.int .i64 a0] rfl (by (try simp only [List.map_toArray, List.map_cons, List.map_nil]); first | done | rfl | (simp only [List.length_drop, List.length_take]; rfl) | (simp only [ByteArray.size_append, Int.natCast_add]; done) | (simp only [ByteArray.size_append, Int.natCast_add]; rfl) | (simp only [Array.mk.injEq, List.cons.injEq, Value.int.injEq, true_and, and_true]; (try simp only [mx, mn, wrap64] at *); omega)) ?_; (with_reducible refine (api_Kind_60.calls a0 false _ A3.out).mono ?_); rintro e w' ⟨rfl, ⟨nd, rfl⟩⟩; refine ⟨_, rfl, ?_⟩) | ((with_reducible refine gate_callee (f := 60) rfl ?_); refine goesL_ (some 10) rfl rfl Tryz.func60 (by kernel_rfl) rfl #[.int .i64 a1] rfl (by (try simp only [List.map_toArray, List.map_cons, List.map_nil]); first | done | rfl | (simp only [List.length_drop, List.length_take]; rfl) | (simp only [ByteArray.size_append, Int.natCast_add]; done) | (simp only [ByteArray.size_append, Int.natCast_add]; rfl) | (simp only [Array.mk.injEq, List.cons.injEq, Value.int.injEq, true_and, and_true]; (try simp only [mx, mn, wrap64] at *); omega)) ?_; (with_reducible refine (api_Kind_60.calls a1 false _ A4.out).mono ?_); rintro e w' ⟨rfl, ⟨nd, rfl⟩⟩; refine ⟨_, rfl, ?_⟩))
          go_ret
          exact ⟨by first | rfl | (simp; done) | (simp [*]; done), by repeat (first | exact Drawn0.refl _ | apply Drawn0.step)⟩
def cmp_isNaN_int.f (a0 : Int) : Option (Bool) := some (a0 != a0)
set_option maxHeartbeats 8000000 in
set_option maxRecDepth 100000 in
theorem cmp_isNaN_int.calls (a0 : Int) (r : Bool) (w : World) (h : cmp_isNaN_int.f a0 = some r) :
    Calls Tryz.prog 61 #[.int .i64 a0] w fun e w' => e = .returned (.bool r) ∧ Drawn0 w w' := by
  have H : (some (a0 != a0)) = some r := h
  clear h
  obtain rfl := Option.some.inj H
  go_enter Tryz.func61, Tryz.ntmps61
  go_wp2
  go_ret
  exact ⟨by first | rfl | (simp; done) | (simp [*]; done), by repeat (first | exact Drawn0.refl _ | apply Drawn0.step)⟩
def cmp_Compare_int.f (a0 : Int) (a1 : Int) : Option (Int) := (cmp_isNaN_int.f a0).bind fun t165 => ((cmp_isNaN_int.f a1).bind fun t166 => (if t165 = true then (if t166 = true then (some 0) else (some (-1))) else (if t166 = true then (some 1) else (if a0 < a1 then (some (-1)) else (if a0 > a1 then (some 1) else (some 0))))))
set_option maxHeartbeats 8000000 in
set_option maxRecDepth 100000 in
theorem cmp_Compare_int.calls (a0 : Int) (a1 : Int) (r : Int) (w : World) (h : cmp_Compare_int.f a0 a1 = some r) :
    Calls Tryz.prog 43 #[.int .i64 a0, .int .i64 a1] w fun e w' => e = .returned (.int .i64 r) ∧ Drawn0 w w' := by
  have H : ((cmp_isNaN_int.f a0).bind fun t165 => ((cmp_isNaN_int.f a1).bind fun t166 => (if t165 = true then (if t166 = true then (some 0) else (some (-1))) else (if t166 = true then (some 1) else (if a0 < a1 then (some (-1)) else (if a0 > a1 then (some 1) else (some 0))))))) = some r := h
  clear h
  replace H := Option.bind_eq_some_iff.mp H
  obtain ⟨t165, A30, H⟩ := H
  replace H : ((cmp_isNaN_int.f a1).bind fun t166 => (if t165 = true then (if t166 = true then (some 0) else (some (-1))) else (if t166 = true then (some 1) else (if a0 < a1 then (some (-1)) else (if a0 > a1 then (some 1) else (some 0)))))) = some r := H
  have A3 := Aside0.mk A30
  clear A30
  replace H := Option.bind_eq_some_iff.mp H
  obtain ⟨t166, A40, H⟩ := H
  replace H : (if t165 = true then (if t166 = true then (some 0) else (some (-1))) else (if t166 = true then (some 1) else (if a0 < a1 then (some (-1)) else (if a0 > a1 then (some 1) else (some 0))))) = some r := H
  have A4 := Aside0.mk A40
  clear A40
  by_cases c5 : t165 = true
  · subst c5
    have H1 : (if t166 = true then (some 0) else (some (-1))) = some r := by rw [if_pos rfl] at H; exact H
    clear H
    have H := H1
    clear H1
    by_cases c6 : t166 = true
    · subst c6
      have H1 : (some 0) = some r := by rw [if_pos rfl] at H; exact H
      clear H
      have H := H1
      clear H1
      obtain rfl := Option.some.inj H
      go_enter Tryz.func43, Tryz.ntmps43
      go_wp2_with (first | ((with_reducible refine gate_callee (f := 61) rfl ?_); refine goesL_ (some 8) rfl rfl Tryz.func61 (by kernel_rfl) rfl #[.int .i64 a0] rfl (by (try simp only [List.map_toArray, List.map_cons, List.map_nil]); first | done | rfl | (simp only [List.length_drop, List.length_take]; rfl) | (simp only [ByteArray.size_append, Int.natCast_add]; done) | (simp only [ByteArray.size_append, Int.natCast_add]; rfl) | (simp only [Array.mk.injEq, List.cons.injEq, Value.int.injEq, true_and, and_true]; (try simp only [mx, mn, wrap64] at *); omega)) ?_; (with_reducible refine (cmp_isNaN_int.calls a0 true _ A3.out).mono ?_); rintro e w' ⟨rfl, ⟨nd, rfl⟩⟩; refine ⟨_, rfl, ?_⟩) | ((with_reducible refine gate_callee (f := 61) rfl ?_); refine goesL_ (some 10) rfl rfl Tryz.func61 (by kernel_rfl) rfl #[.int .i64 a1] rfl (by (try simp only [List.map_toArray, List.map_cons, List.map_nil]); first | done | rfl | (simp only [List.length_drop, List.length_take]; rfl) | (simp only [ByteArray.size_append, Int.natCast_add]; done) | (simp only [ByteArray.size_append, Int.natCast_add]; rfl) | (simp only [Array.mk.injEq, List.cons.injEq, Value.int.injEq, true_and, and_true]; (try simp only [mx, mn, wrap64] at *); omega)) ?_; (with_reducible refine (cmp_isNaN_int.calls a1 true _ A4.out).mono ?_); rintro e w' ⟨rfl, ⟨nd, rfl⟩⟩; refine ⟨_, rfl, ?_⟩))
      go_ret
      exact ⟨by first | rfl | (simp; done) | (simp [*]; done), by repeat (first | exact Drawn0.refl _ | apply Drawn0.step)⟩
    · replace c6 := Bool.eq_false_iff.mpr c6
      subst c6
      have H1 : (some (-1)) = some r := by rw [if_neg (show ¬ (false = true) by decide)] at H; exact H
      clear H
      have H := H1
      clear H1
      obtain rfl := Option.some.inj H
      go_enter Tryz.func43, Tryz.ntmps43
      go_wp2_with (first | ((with_reducible refine gate_callee (f := 61) rfl ?_); refine goesL_ (some 8) rfl rfl Tryz.func61 (by kernel_rfl) rfl #[.int .i64 a0] rfl (by (try simp only [List.map_toArray, List.map_cons, List.map_nil]); first | done | rfl | (simp only [List.length_drop, List.length_take]; rfl) | (simp only [ByteArray.size_append, Int.natCast_add]; done) | (simp only [ByteArray.size_append, Int.natCast_add]; rfl) | (simp only [Array.mk.injEq, List.cons.injEq, Value.int.injEq, true_and, and_true]; (try simp only [mx, mn, wrap64] at *); omega)) ?_; (with_reducible refine (cmp_isNaN_int.calls a0 true _ A3.out).mono ?_); rintro e w' ⟨rfl, ⟨nd, rfl⟩⟩; refine ⟨_, rfl, ?_⟩) | ((with_reducible refine gate_callee (f := 61) rfl ?_); refine goesL_ (some 10) rfl rfl Tryz.func61 (by kernel_rfl) rfl #[.int .i64 a1] rfl (by (try simp only [List.map_toArray, List.map_cons, List.map_nil]); first | done | rfl | (simp only [List.length_drop, List.length_take]; rfl) | (simp only [ByteArray.size_append, Int.natCast_add]; done) | (simp only [ByteArray.size_append, Int.natCast_add]; rfl) | (simp only [Array.mk.injEq, List.cons.injEq, Value.int.injEq, true_and, and_true]; (try simp only [mx, mn, wrap64] at *); omega)) ?_; (with_reducible refine (cmp_isNaN_int.calls a1 false _ A4.out).mono ?_); rintro e w' ⟨rfl, ⟨nd, rfl⟩⟩; refine ⟨_, rfl, ?_⟩))
      go_ret
      exact ⟨by first | rfl | (simp; done) | (simp [*]; done), by repeat (first | exact Drawn0.refl _ | apply Drawn0.step)⟩
  · replace c5 := Bool.eq_false_iff.mpr c5
    subst c5
    have H1 : (if t166 = true then (some 1) else (if a0 < a1 then (some (-1)) else (if a0 > a1 then (some 1) else (some 0)))) = some r := by rw [if_neg (show ¬ (false = true) by decide)] at H; exact H
    clear H
    have H := H1
    clear H1
    by_cases c7 : t166 = true
    · subst c7
      have H1 : (some 1) = some r := by rw [if_pos rfl] at H; exact H
      clear H
      have H := H1
      clear H1
      obtain rfl := Option.some.inj H
      go_enter Tryz.func43, Tryz.ntmps43
      go_wp2_with (first | ((with_reducible refine gate_callee (f := 61) rfl ?_); refine goesL_ (some 8) rfl rfl Tryz.func61 (by kernel_rfl) rfl #[.int .i64 a0] rfl (by (try simp only [List.map_toArray, List.map_cons, List.map_nil]); first | done | rfl | (simp only [List.length_drop, List.length_take]; rfl) | (simp only [ByteArray.size_append, Int.natCast_add]; done) | (simp only [ByteArray.size_append, Int.natCast_add]; rfl) | (simp only [Array.mk.injEq, List.cons.injEq, Value.int.injEq, true_and, and_true]; (try simp only [mx, mn, wrap64] at *); omega)) ?_; (with_reducible refine (cmp_isNaN_int.calls a0 false _ A3.out).mono ?_); rintro e w' ⟨rfl, ⟨nd, rfl⟩⟩; refine ⟨_, rfl, ?_⟩) | ((with_reducible refine gate_callee (f := 61) rfl ?_); refine goesL_ (some 10) rfl rfl Tryz.func61 (by kernel_rfl) rfl #[.int .i64 a1] rfl (by (try simp only [List.map_toArray, List.map_cons, List.map_nil]); first | done | rfl | (simp only [List.length_drop, List.length_take]; rfl) | (simp only [ByteArray.size_append, Int.natCast_add]; done) | (simp only [ByteArray.size_append, Int.natCast_add]; rfl) | (simp only [Array.mk.injEq, List.cons.injEq, Value.int.injEq, true_and, and_true]; (try simp only [mx, mn, wrap64] at *); omega)) ?_; (with_reducible refine (cmp_isNaN_int.calls a1 true _ A4.out).mono ?_); rintro e w' ⟨rfl, ⟨nd, rfl⟩⟩; refine ⟨_, rfl, ?_⟩))
      go_ret
      exact ⟨by first | rfl | (simp; done) | (simp [*]; done), by repeat (first | exact Drawn0.refl _ | apply Drawn0.step)⟩
    · replace c7 := Bool.eq_false_iff.mpr c7
      subst c7
      have H1 : (if a0 < a1 then (some (-1)) else (if a0 > a1 then (some 1) else (some 0))) = some r := by rw [if_neg (show ¬ (false = true) by decide)] at H; exact H
      clear H
      have H := H1
      clear H1
      by_cases c8 : a0 < a1
      · rw [if_pos c8] at H
        have c8b0 : decide (a0 < a1) = true := decide_eq_true c8
        clear c8
        obtain rfl := Option.some.inj H
        go_enter Tryz.func43, Tryz.ntmps43
        go_wp2_with (first | ((with_reducible refine gate_callee (f := 61) rfl ?_); refine goesL_ (some 8) rfl rfl Tryz.func61 (by kernel_rfl) rfl #[.int .i64 a0] rfl (by (try simp only [List.map_toArray, List.map_cons, List.map_nil]); first | done | rfl | (simp only [List.length_drop, List.length_take]; rfl) | (simp only [ByteArray.size_append, Int.natCast_add]; done) | (simp only [ByteArray.size_append, Int.natCast_add]; rfl) | (simp only [Array.mk.injEq, List.cons.injEq, Value.int.injEq, true_and, and_true]; (try simp only [mx, mn, wrap64] at *); omega)) ?_; (with_reducible refine (cmp_isNaN_int.calls a0 false _ A3.out).mono ?_); rintro e w' ⟨rfl, ⟨nd, rfl⟩⟩; refine ⟨_, rfl, ?_⟩) | ((with_reducible refine gate_callee (f := 61) rfl ?_); refine goesL_ (some 10) rfl rfl Tryz.func61 (by kernel_rfl) rfl #[.int .i64 a1] rfl (by (try simp only [List.map_toArray, List.map_cons, List.map_nil]); first | done | rfl | (simp only [List.length_drop, List.length_take]; rfl) | (simp only [ByteArray.size_append, Int.natCast_add]; done) | (simp only [ByteArray.size_append, Int.natCast_add]; rfl) | (simp only [Array.mk.injEq, List.cons.injEq, Value.int.injEq, true_and, and_true]; (try simp only [mx, mn, wrap64] at *); omega)) ?_; (with_reducible refine (cmp_isNaN_int.calls a1 false _ A4.out).mono ?_); rintro e w' ⟨rfl, ⟨nd, rfl⟩⟩; refine ⟨_, rfl, ?_⟩))
        go_ret
        exact ⟨by first | rfl | (simp; done) | (simp [*]; done), by repeat (first | exact Drawn0.refl _ | apply Drawn0.step)⟩
      · rw [if_neg c8] at H
        have c8b0 : decide (a0 < a1) = false := decide_eq_false c8
        clear c8
        by_cases c9 : a0 > a1
        · rw [if_pos c9] at H
          have c9b0 : decide (a1 < a0) = true := decide_eq_true c9
          clear c9
          obtain rfl := Option.some.inj H
          go_enter Tryz.func43, Tryz.ntmps43
          go_wp2_with (first | ((with_reducible refine gate_callee (f := 61) rfl ?_); refine goesL_ (some 8) rfl rfl Tryz.func61 (by kernel_rfl) rfl #[.int .i64 a0] rfl (by (try simp only [List.map_toArray, List.map_cons, List.map_nil]); first | done | rfl | (simp only [List.length_drop, List.length_take]; rfl) | (simp only [ByteArray.size_append, Int.natCast_add]; done) | (simp only [ByteArray.size_append, Int.natCast_add]; rfl) | (simp only [Array.mk.injEq, List.cons.injEq, Value.int.injEq, true_and, and_true]; (try simp only [mx, mn, wrap64] at *); omega)) ?_; (with_reducible refine (cmp_isNaN_int.calls a0 false _ A3.out).mono ?_); rintro e w' ⟨rfl, ⟨nd, rfl⟩⟩; refine ⟨_, rfl, ?_⟩) | ((with_reducible refine gate_callee (f := 61) rfl ?_); refine goesL_ (some 10) rfl rfl Tryz.func61 (by kernel_rfl) rfl #[.int .i64 a1] rfl (by (try simp only [List.map_toArray, List.map_cons, List.map_nil]); first | done | rfl | (simp only [List.length_drop, List.length_take]; rfl) | (simp only [ByteArray.size_append, Int.natCast_add]; done) | (simp only [ByteArray.size_append, Int.natCast_add]; rfl) | (simp only [Array.mk.injEq, List.cons.injEq, Value.int.injEq, true_and, and_true]; (try simp only [mx, mn, wrap64] at *); omega)) ?_; (with_reducible refine (cmp_isNaN_int.calls a1 false _ A4.out).mono ?_); rintro e w' ⟨rfl, ⟨nd, rfl⟩⟩; refine ⟨_, rfl, ?_⟩))
          go_ret
          exact ⟨by first | rfl | (simp; done) | (simp [*]; done), by repeat (first | exact Drawn0.refl _ | apply Drawn0.step)⟩
        · rw [if_neg c9] at H
          have c9b0 : decide (a1 < a0) = false := decide_eq_false c9
          clear c9
          obtain rfl := Option.some.inj H
          go_enter Tryz.func43, Tryz.ntmps43
          go_wp2_with (first | ((with_reducible refine gate_callee (f := 61) rfl ?_); refine goesL_ (some 8) rfl rfl Tryz.func61 (by kernel_rfl) rfl #[.int .i64 a0] rfl (by (try simp only [List.map_toArray, List.map_cons, List.map_nil]); first | done | rfl | (simp only [List.length_drop, List.length_take]; rfl) | (simp only [ByteArray.size_append, Int.natCast_add]; done) | (simp only [ByteArray.size_append, Int.natCast_add]; rfl) | (simp only [Array.mk.injEq, List.cons.injEq, Value.int.injEq, true_and, and_true]; (try simp only [mx, mn, wrap64] at *); omega)) ?_; (with_reducible refine (cmp_isNaN_int.calls a0 false _ A3.out).mono ?_); rintro e w' ⟨rfl, ⟨nd, rfl⟩⟩; refine ⟨_, rfl, ?_⟩) | ((with_reducible refine gate_callee (f := 61) rfl ?_); refine goesL_ (some 10) rfl rfl Tryz.func61 (by kernel_rfl) rfl #[.int .i64 a1] rfl (by (try simp only [List.map_toArray, List.map_cons, List.map_nil]); first | done | rfl | (simp only [List.length_drop, List.length_take]; rfl) | (simp only [ByteArray.size_append, Int.natCast_add]; done) | (simp only [ByteArray.size_append, Int.natCast_add]; rfl) | (simp only [Array.mk.injEq, List.cons.injEq, Value.int.injEq, true_and, and_true]; (try simp only [mx, mn, wrap64] at *); omega)) ?_; (with_reducible refine (cmp_isNaN_int.calls a1 false _ A4.out).mono ?_); rintro e w' ⟨rfl, ⟨nd, rfl⟩⟩; refine ⟨_, rfl, ?_⟩))
          go_ret
          exact ⟨by first | rfl | (simp; done) | (simp [*]; done), by repeat (first | exact Drawn0.refl _ | apply Drawn0.step)⟩
def value_rank.f (a0 : Bool) : Option (Int) := if a0 = true then (some 1) else (some 0)
set_option maxHeartbeats 8000000 in
set_option maxRecDepth 100000 in
theorem value_rank.calls (a0 : Bool) (r : Int) (w : World) (h : value_rank.f a0 = some r) :
    Calls Tryz.prog 45 #[.bool a0] w fun e w' => e = .returned (.int .i64 r) ∧ Drawn0 w w' := by
  have H : (if a0 = true then (some 1) else (some 0)) = some r := h
  clear h
  by_cases c2 : a0 = true
  · subst c2
    have H1 : (some 1) = some r := by rw [if_pos rfl] at H; exact H
    clear H
    have H := H1
    clear H1
    obtain rfl := Option.some.inj H
    go_enter Tryz.func45, Tryz.ntmps45
    go_wp2
    go_ret
    exact ⟨by first | rfl | (simp; done) | (simp [*]; done), by repeat (first | exact Drawn0.refl _ | apply Drawn0.step)⟩
  · replace c2 := Bool.eq_false_iff.mpr c2
    subst c2
    have H1 : (some 0) = some r := by rw [if_neg (show ¬ (false = true) by decide)] at H; exact H
    clear H
    have H := H1
    clear H1
    obtain rfl := Option.some.inj H
    go_enter Tryz.func45, Tryz.ntmps45
    go_wp2
    go_ret
    exact ⟨by first | rfl | (simp; done) | (simp [*]; done), by repeat (first | exact Drawn0.refl _ | apply Drawn0.step)⟩
end Go.Proofs.YtgjdlimbkjdhjaaGreatDoor.Pr
end
