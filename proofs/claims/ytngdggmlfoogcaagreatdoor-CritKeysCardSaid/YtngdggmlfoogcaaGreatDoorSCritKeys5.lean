/-
  What the law CritKeys leans on, out of the texts that were printed and written for this seat: only what its proof mentions (gathered by a program of the author's).
-/
import Derived.Test.YtngdggmlfoogcaaGreatDoorSCritKeys4
import Derived.Below
import Derived.Laws.IdiomStrings
import Derived.Laws.NewBlocks
import Derived.Laws.RangeAny
import Derived.LoopTactic
import Derived.WalkKit
section
namespace Go.Proofs.YtngdggmlfoogcaaGreatDoor.Pr
set_option linter.unusedVariables false
set_option linter.unusedSimpArgs false
open Go.RowKit Go.Proofs.YtngdggmlfoogcaaGreatDoorW.PrintWords Go.Proofs.YtngdggmlfoogcaaGreatDoorW.PrintMore
def up (c : UInt8) : UInt8 := if 97 ≤ c.toNat ∧ c.toNat ≤ 122 then c - 32 else c
def foldAt (l : List UInt8) (k : Nat) : List UInt8 := (l.take k).map up ++ l.drop k
theorem foldAt_length (l : List UInt8) (k : Nat) : (foldAt l k).length = l.length := by unfold foldAt; simp; omega
def BytesAt (w : World) (B : Nat) (l : List UInt8) : Prop := ∀ j (h : j < l.length), w.cell? ⟨B, j, none⟩ = some (.int .u8 (l[j].toNat : Int)) ∧ w.frozen? ⟨B, j, none⟩ = false
theorem foldAt_get (l : List UInt8) (k j : Nat) (h : j < (foldAt l k).length) (h2 : j < l.length) : (foldAt l k)[j] = if j < k then up l[j] else l[j] := by
  have e : (foldAt l k)[j] = (List.map up (l.take k) ++ l.drop k)[j]'(by simpa [foldAt] using h) := rfl
  rw [e, List.getElem_append]
  split
  · rename_i hj
    simp at hj
    rw [if_pos (by omega)]
    simp
  · rename_i hj
    simp at hj
    rw [if_neg (by omega)]
    simp
    congr 1
    omega
theorem up_le (c : UInt8) (h : 97 ≤ c.toNat) (h2 : c.toNat ≤ 122) : ((up c).toNat : Int) = (c.toNat : Int) - 97 + 65 := by
  unfold up
  rw [if_pos ⟨h, h2⟩, UInt8.toNat_sub_of_le _ _ (by rw [UInt8.le_iff_toNat_le]; show 32 ≤ _; omega)]
  show ((c.toNat - 32 : Nat) : Int) = _
  omega
theorem up_no (c : UInt8) (h : ¬ (97 ≤ c.toNat ∧ c.toNat ≤ 122)) : up c = c := by unfold up; rw [if_neg h]
theorem foldAt_zero (l : List UInt8) : foldAt l 0 = l := by simp [foldAt]
theorem foldAt_all (l : List UInt8) (k : Nat) (h : ¬ k < l.length) : foldAt l k = l.map up := by
  unfold foldAt
  rw [List.take_of_length_le (by omega), List.drop_of_length_le (by omega), List.append_nil]
theorem bytesAt_same {w : World} {B : Nat} {l : List UInt8} {k : Nat} (h : BytesAt w B (foldAt l k)) (hk : k < l.length) (hu : up l[k] = l[k]) : BytesAt w B (foldAt l (k + 1)) := by
  intro j hj
  have hj2 : j < l.length := by rw [foldAt_length] at hj; exact hj
  have := h j (by rw [foldAt_length]; exact hj2)
  rw [foldAt_get l k j _ hj2] at this
  rw [foldAt_get l (k + 1) j _ hj2]
  by_cases c : j < k
  · rw [if_pos c] at this; rw [if_pos (by omega)]; exact this
  · rw [if_neg c] at this
    by_cases c2 : j = k
    · subst c2; rw [if_pos (by omega), hu]; exact this
    · rw [if_neg (by omega)]; exact this
theorem bytesAt_set {w : World} {B : Nat} {l : List UInt8} {k : Nat} (h : BytesAt w B (foldAt l k)) (hk : k < l.length) (v : Int) (hv : v = ((up l[k]).toNat : Int)) : BytesAt (w.setCell ⟨B, k, none⟩ (.int .u8 v)) B (foldAt l (k + 1)) := by
  subst hv
  intro j hj
  have hj2 : j < l.length := by rw [foldAt_length] at hj; exact hj
  have h1 := h j (by rw [foldAt_length]; exact hj2)
  have hkk := h k (by rw [foldAt_length]; exact hk)
  rw [foldAt_get l k j _ hj2] at h1
  rw [foldAt_get l (k + 1) j _ hj2]
  refine ⟨?_, by rw [World.frozen?_setCell]; exact h1.2⟩
  by_cases c2 : j = k
  · subst c2; rw [if_pos (by omega)]; exact World.cell?_setCell_same _ _ _ hkk.1
  · rw [World.cell?_setCell_other _ _ _ _ (by first | (simp; done) | (simp; omega))]
    by_cases c : j < k
    · rw [if_pos c] at h1; rw [if_pos (by omega)]; exact h1.1
    · rw [if_neg c] at h1; rw [if_neg (by omega)]; exact h1.1
theorem bytesAt_back {P : Program} {w : World} {B : Nat} {l : List UInt8} {src dst e : TypeId} (cap : Nat) (h : BytesAt w B l) (hs : P.underlying src = some (.slice e)) (he : P.underlying e = some (.int .u8)) (hd : P.underlying dst = some .string) (n : Nat) (hn : n = l.length) :
    (convert src dst (.slice (some ⟨B, 0, none⟩) n cap)).run P w = .ok (.string ⟨l.toArray⟩) w := by
  subst hn
  exact run_convert_bytes_back w src dst e ⟨B, 0, none⟩ cap l hs he hd (fun j hj => by rw [add_plain]; first | exact (h j hj).1 | (rw [Nat.zero_add]; exact (h j hj).1))
theorem setCell_heap_size (w : World) (a : Addr) (v : Value) : (w.setCell a v).heap.size = w.heap.size := by unfold World.setCell; simp
theorem bytesAt_new (w : World) (l : List UInt8) (cap : Nat) : BytesAt (w.drew.alloc (.cells (bytesRow ⟨l.toArray⟩ cap) 5 ((bytesRow ⟨l.toArray⟩ cap).size, (bytesRow ⟨l.toArray⟩ cap).size + 1))) w.heap.size l := by
  intro j hj
  have hsz : l.length ≤ (bytesRow ⟨l.toArray⟩ cap).size := by simp [bytesRow]
  refine ⟨?_, ?_⟩
  · have := bytesRow_at ⟨l.toArray⟩ cap j (by simpa using hj)
    show (w.drew.alloc _).cell? ⟨w.drew.heap.size, j, none⟩ = _
    rw [World.cell?_alloc_mark, this]
    simp
  · show (w.drew.alloc _).frozen? ⟨w.drew.heap.size, j, none⟩ = _
    rw [World.frozen?_alloc_mark]
    simp
    omega
set_option maxHeartbeats 4000000 in
set_option maxRecDepth 100000 in
theorem fold_walk (l : List UInt8) (w : World) (cap : Nat) (w1 : World) (hl : l.length ≤ 140737488351232)
    (hconv : (convert 9 62 (.string ⟨l.toArray⟩)).run Tryz.prog w = .ok (.slice (some ⟨w.heap.size, 0, none⟩) l.length cap) w1)
    (hb : BytesAt w1 w.heap.size (foldAt l 0)) (hbel : Below w.heap.size w w1) (hsz : w.heap.size < w1.heap.size) :
    Calls Tryz.prog 45 #[.string ⟨l.toArray⟩] w fun e w' => e = .returned (.string ⟨(l.map up).toArray⟩) ∧ Below w.heap.size w w' := by
  go_enter Tryz.func45, Tryz.ntmps45
  go_wp2
  go_loopw [4] (fun n wr => ∃ k : Nat, k ≤ l.length ∧ n = .int .i64 k ∧ BytesAt wr w.heap.size (foldAt l k) ∧ Below w.heap.size w wr ∧ w.heap.size < wr.heap.size) (fun n _ => l.length - (intOf n).toNat)
  case atStart => exact ⟨0, Nat.zero_le _, rfl, hb, hbel, hsz⟩
  case round =>
    obtain ⟨k, hk, rfl, hb, hbel, hsz⟩ := hrel
    by_cases hlt : k < l.length
    · have hck := hb k (by rw [foldAt_length]; exact hlt)
      rw [foldAt_get l k k _ hlt, if_neg (Nat.lt_irrefl k)] at hck
      obtain ⟨hc, hf⟩ := hck
      go_wp2
      · have h1 : 97 ≤ (l[k].toNat : Int) := by assumption
        have h2 : (l[k].toNat : Int) ≤ 122 := by assumption
        refine ⟨⟨k + 1, hlt, by go_num, bytesAt_set hb hlt _ (up_le l[k] (by omega) (by omega)).symm, hbel.setCell (Nat.le_refl _) _, by rw [setCell_heap_size]; exact hsz⟩, ?_⟩
        simp [intOf]; omega
      · have h2 : 122 < (l[k].toNat : Int) := by assumption
        refine ⟨⟨k + 1, hlt, by go_num, bytesAt_same hb hlt (up_no _ (by omega)), hbel, hsz⟩, ?_⟩
        simp [intOf]; omega
      · have h1 : ¬ 97 ≤ (l[k].toNat : Int) := by assumption
        refine ⟨⟨k + 1, hlt, by go_num, bytesAt_same hb hlt (up_no _ (by omega)), hbel, hsz⟩, ?_⟩
        simp [intOf]; omega
    · rw [foldAt_all l k hlt] at hb
      have hback := bytesAt_back (P := Tryz.prog) (src := 62) (dst := 9) (e := 5) cap hb Tryz.underlying62 Tryz.underlying5 Tryz.underlying9 l.length (by simp)
      go_wp2
      go_ret
      exact ⟨rfl, hbel⟩
theorem fold_calls (l : List UInt8) (w : World) (hl : l.length ≤ 140737488351232) :
    Calls Tryz.prog 45 #[.string ⟨l.toArray⟩] w fun e w' => e = .returned (.string ⟨(l.map up).toArray⟩) ∧ Below w.heap.size w w' := by
  have hconv := run_bytes_of_string (P := Tryz.prog) w 9 62 5 ⟨l.toArray⟩ Tryz.underlying9 Tryz.underlying62 Tryz.underlying5
  refine fold_walk l w _ _ hl hconv ?_ ?_ ?_
  · rw [foldAt_zero]; exact bytesAt_new w l _
  · exact (Below.refl _ _).drew.alloc (Nat.le_refl _) _
  · show w.heap.size < (w.heap.push _).size
    simp
theorem get_bang (l : List UInt8) (k : Nat) (h : k < l.length) : (⟨l.toArray⟩ : ByteArray).get! k = l[k] := by
  show (l.toArray)[k]! = _
  rw [getElem!_pos (l.toArray) k (by simpa using h)]
  simp
theorem get_at0 (l : List UInt8) (k : Nat) (h : k < l.length) : (⟨l.toArray⟩ : ByteArray)[k]'(by simpa [ByteArray.size] using h) = l[k] := by
  show (l.toArray)[k] = _
  simp
theorem decode_cont (s : ByteArray) (i t : Nat) (h1 : 1 ≤ t) (h2 : t < (Utf8.decode s i).2) : i + t < s.size ∧ 128 ≤ (s.get! (i + t)).toNat := by
  have key : ∀ k, (decide (i + k < s.size) && (s.get! (i + k)).toNat / 64 == 2) = true → i + k < s.size ∧ 128 ≤ (s.get! (i + k)).toNat := by
    intro k hk
    simp only [Bool.and_eq_true, decide_eq_true_eq, beq_iff_eq] at hk
    exact ⟨hk.1, by omega⟩
  simp only [Utf8.decode] at h2
  repeat' split at h2
  all_goals dsimp only at h2
  all_goals try (exfalso; omega)
  · rename_i _ h _
    obtain rfl : t = 1 := by omega
    exact key 1 (Bool.and_eq_true_iff.1 h).2
  · rename_i _ _ h _
    have h' := Bool.and_eq_true_iff.1 h
    rcases (show t = 1 ∨ t = 2 by omega) with rfl | rfl
    · exact key 1 (Bool.and_eq_true_iff.1 h'.1).2
    · exact key 2 h'.2
  · rename_i _ _ _ h _
    have h' := Bool.and_eq_true_iff.1 h
    have h'' := Bool.and_eq_true_iff.1 h'.1
    rcases (show t = 1 ∨ t = 2 ∨ t = 3 by omega) with rfl | rfl | rfl
    · exact key 1 (Bool.and_eq_true_iff.1 h''.1).2
    · exact key 2 h''.2
    · exact key 3 h'.2
theorem decode_le_end (s : ByteArray) (i : Nat) (h : i < s.size) : i + (Utf8.decode s i).2 ≤ s.size := by
  by_cases c : (Utf8.decode s i).2 ≤ 1
  · omega
  · have := (decode_cont s i ((Utf8.decode s i).2 - 1) (by omega) (by omega)).1
    omega
theorem bytesAt_skip {w : World} {B : Nat} {l : List UInt8} {k : Nat} (h : BytesAt w B (foldAt l k)) (n : Nat) (hk : k + n ≤ l.length) (hu : ∀ j (hj : j < l.length), k ≤ j → j < k + n → up l[j] = l[j]) : BytesAt w B (foldAt l (k + n)) := by
  induction n with
  | zero => exact h
  | succ n ih => exact bytesAt_same (k := k + n) (ih (by omega) (fun j hj h1 h2 => hu j hj h1 (by omega))) (show k + n < l.length by omega) (hu (k + n) (by omega) (by omega) (by omega))
theorem iter_setCell (w : World) (s : ByteArray) (p : Nat) (a : Addr) (v : Value) (h : a.block < w.heap.size) : (w.iter s p).setCell a v = (w.setCell a v).iter s p := by
  unfold World.setCell World.iter World.alloc
  simp only
  congr 1
  apply Array.ext
  · simp
  · intro i h1 h2
    simp only [Array.getElem_modify, Array.getElem_push]
    simp at h1
    by_cases hb : a.block = i
    · subst hb
      simp [h]
    · simp [hb]
theorem iter_cell (w : World) (s : ByteArray) (p : Nat) (a : Addr) (h : a.block < w.heap.size) : (w.iter s p).cell? a = w.cell? a := by
  unfold World.cell? World.iter World.alloc
  simp [Array.getElem?_push, Nat.ne_of_lt h]
theorem iter_frozen (w : World) (s : ByteArray) (p : Nat) (a : Addr) (h : a.block < w.heap.size) : (w.iter s p).frozen? a = w.frozen? a := by
  unfold World.frozen? World.iter World.alloc
  simp [Array.getElem?_push, Nat.ne_of_lt h]
theorem bytesAt_iter {w : World} {B : Nat} {l : List UInt8} (s : ByteArray) (p : Nat) (h : B < w.heap.size) : BytesAt (w.iter s p) B l ↔ BytesAt w B l := by
  unfold BytesAt
  constructor
  · intro H j hj
    have := H j hj
    rw [iter_cell _ _ _ _ h, iter_frozen _ _ _ _ h] at this
    exact this
  · intro H j hj
    rw [iter_cell _ _ _ _ h, iter_frozen _ _ _ _ h]
    exact H j hj
theorem up_high (c : UInt8) (h : 128 ≤ c.toNat) : up c = c := up_no c (by omega)
set_option maxHeartbeats 4000000 in
set_option maxRecDepth 100000 in
theorem vfold_walk (l : List UInt8) (w : World) (cap : Nat) (w1 : World) (hl : l.length ≤ 140737488351232)
    (hconv : (convert 9 62 (.string ⟨l.toArray⟩)).run Tryz.prog w = .ok (.slice (some ⟨w.heap.size, 0, none⟩) l.length cap) w1)
    (hb : BytesAt w1 w.heap.size (foldAt l 0)) (hbel : Below w.heap.size w w1) (hsz : w.heap.size < w1.heap.size) :
    Calls Tryz.prog 47 #[.string ⟨l.toArray⟩] w fun e w' => e = .returned (.string ⟨(l.map up).toArray⟩) ∧ Below w.heap.size w w' := by
  go_enter Tryz.func47, Tryz.ntmps47
  go_wp2
  go_loopw [] (fun wr => ∃ (k : Nat) (w0 : World), k ≤ l.length ∧ wr = w0.iter ⟨l.toArray⟩ k ∧ w0.heap.size = w1.heap.size ∧ BytesAt w0 w.heap.size (foldAt l k) ∧ Below w.heap.size w w0) (fun wr => l.length - wr.iterPos w1.heap.size)
  case atStart => exact ⟨0, w1, Nat.zero_le _, rfl, rfl, hb, hbel⟩
  case round =>
    obtain ⟨k, w0, hk, rfl, hs0, hb0, hbel0⟩ := hrel
    have hpos : (w0.iter ⟨l.toArray⟩ k).iterPos w1.heap.size = k := by rw [← hs0]; exact World.iterPos_iter _ _ _
    by_cases hlt : k < l.length
    · have hck := hb0 k (by rw [foldAt_length]; exact hlt)
      rw [foldAt_get l k k _ hlt, if_neg (Nat.lt_irrefl k)] at hck
      obtain ⟨hc, hf⟩ := hck
      have hBs : w.heap.size < w0.heap.size := by omega
      have hsize : k < (⟨l.toArray⟩ : ByteArray).size := by simpa [ByteArray.size] using hlt
      have hnx : (Instr.next (.pointer (some ⟨w1.heap.size, 0, none⟩)) true 0).run Tryz.prog (w0.iter ⟨l.toArray⟩ k) = .ok (.tuple #[.bool true, .int .i64 k, .int .i32 (Utf8.decode ⟨l.toArray⟩ k).1]) (w0.iter ⟨l.toArray⟩ (k + (Utf8.decode ⟨l.toArray⟩ k).2)) := by
        rw [← hs0]; exact run_next_any w0 ⟨l.toArray⟩ k 0 hsize
      by_cases ha : l[k].toNat < 128
      · have hd : Utf8.decode ⟨l.toArray⟩ k = (l[k].toNat, 1) := by
          have := decode_ascii ⟨l.toArray⟩ k hsize (by rw [get_at0 l k hlt]; exact ha)
          rw [get_at0 l k hlt] at this
          exact this
        rw [hd] at hnx
        have hci : (w0.iter ⟨l.toArray⟩ (k + 1)).cell? ⟨w.heap.size, k, none⟩ = some (.int .u8 (l[k].toNat : Int)) := by rw [iter_cell _ _ _ _ hBs]; exact hc
        have hfi : (w0.iter ⟨l.toArray⟩ (k + 1)).frozen? ⟨w.heap.size, k, none⟩ = false := by rw [iter_frozen _ _ _ _ hBs]; exact hf
        have hpos1 : (w0.iter ⟨l.toArray⟩ (k + 1)).iterPos w1.heap.size = k + 1 := by rw [← hs0]; exact World.iterPos_iter _ _ _
        go_wp2
        · have h1 : 97 ≤ (l[k].toNat : Int) := by assumption
          have h2 : (l[k].toNat : Int) ≤ 122 := by assumption
          rw [iter_setCell _ _ _ _ _ hBs]
          refine ⟨⟨k + 1, _, hlt, rfl, by rw [setCell_heap_size]; exact hs0, bytesAt_set hb0 hlt _ (by rw [up_le l[k] (by omega) (by omega)]; omega), hbel0.setCell (Nat.le_refl _) _⟩, ?_⟩
          have hp2 : ((w0.setCell ⟨w.heap.size, k, none⟩ (.int .u8 ((l[k].toNat : Int) - 32))).iter ⟨l.toArray⟩ (k + 1)).iterPos w1.heap.size = k + 1 := by
            rw [show w1.heap.size = (w0.setCell ⟨w.heap.size, k, none⟩ (.int .u8 ((l[k].toNat : Int) - 32))).heap.size by rw [setCell_heap_size, hs0]]
            exact World.iterPos_iter _ _ _
          rw [hp2, hpos]
          omega
        · have h2 : 122 < (l[k].toNat : Int) := by assumption
          refine ⟨⟨k + 1, w0, hlt, rfl, hs0, bytesAt_same hb0 hlt (up_no _ (by omega)), hbel0⟩, ?_⟩
          rw [hpos1, hpos]; omega
        · have h1 : ¬ 97 ≤ (l[k].toNat : Int) := by assumption
          refine ⟨⟨k + 1, w0, hlt, rfl, hs0, bytesAt_same hb0 hlt (up_no _ (by omega)), hbel0⟩, ?_⟩
          rw [hpos1, hpos]; omega
      · have hd := decode_high ⟨l.toArray⟩ k hsize (by rw [get_at0 l k hlt]; omega)
        have hend := decode_le_end ⟨l.toArray⟩ k hsize
        have hcont := decode_cont ⟨l.toArray⟩ k
        have hle := decode_le ⟨l.toArray⟩ k
        rw [show (⟨l.toArray⟩ : ByteArray).size = l.length by simp [ByteArray.size]] at hend
        obtain ⟨d, hde⟩ : ∃ d, Utf8.decode ⟨l.toArray⟩ k = d := ⟨_, rfl⟩
        rw [hde] at hnx hd hend hcont hle
        obtain ⟨c, n⟩ := d
        simp only at hnx hd hend hcont hle
        clear hde
        have hb2 : BytesAt w0 w.heap.size (foldAt l (k + n)) := by
          refine bytesAt_skip hb0 n hend fun j hj h1 h2 => up_high _ ?_
          by_cases e : j = k
          · subst e; omega
          · have := (hcont (j - k) (by omega) (by omega)).2
            rw [show k + (j - k) = j by omega, get_bang l j hj] at this
            exact this
        have hpos1 : (w0.iter ⟨l.toArray⟩ (k + n)).iterPos w1.heap.size = k + n := by rw [← hs0]; exact World.iterPos_iter _ _ _
        have hc97 : (97 : Int) ≤ c := by omega
        have hc122 : (122 : Int) < c := by omega
        clear hcont
        go_wp2
        refine ⟨⟨k + n, w0, hend, rfl, hs0, hb2, hbel0⟩, ?_⟩
        rw [hpos1, hpos]
        omega
    · have hnx : (Instr.next (.pointer (some ⟨w1.heap.size, 0, none⟩)) true 0).run Tryz.prog (w0.iter ⟨l.toArray⟩ k) = .ok (.tuple #[.bool false]) (w0.iter ⟨l.toArray⟩ k) := by
        rw [← hs0]; exact run_next_end w0 ⟨l.toArray⟩ k 0 (by simpa [ByteArray.size] using hlt)
      rw [foldAt_all l k hlt] at hb0
      have hBs : w.heap.size < w0.heap.size := by omega
      have hback := bytesAt_back (P := Tryz.prog) (src := 62) (dst := 9) (e := 5) cap ((bytesAt_iter ⟨l.toArray⟩ k hBs).2 hb0) Tryz.underlying62 Tryz.underlying5 Tryz.underlying9 l.length (by simp)
      go_wp2
      go_ret
      exact ⟨rfl, hbel0.alloc (Nat.le_of_lt hBs) _⟩
theorem vfold_calls (l : List UInt8) (w : World) (hl : l.length ≤ 140737488351232) :
    Calls Tryz.prog 47 #[.string ⟨l.toArray⟩] w fun e w' => e = .returned (.string ⟨(l.map up).toArray⟩) ∧ Below w.heap.size w w' := by
  have hconv := run_bytes_of_string (P := Tryz.prog) w 9 62 5 ⟨l.toArray⟩ Tryz.underlying9 Tryz.underlying62 Tryz.underlying5
  refine vfold_walk l w _ _ hl hconv ?_ ?_ ?_
  · rw [foldAt_zero]; exact bytesAt_new w l _
  · exact (Below.refl _ _).drew.alloc (Nat.le_refl _) _
  · show w.heap.size < (w.heap.push _).size
    simp
def foldB (a : ByteArray) : ByteArray := ⟨(a.data.toList.map up).toArray⟩
def foolscapref04_Fold.f (a0 : ByteArray) : Option ByteArray := if a0.size ≤ 140737488351232 then some (foldB a0) else none
def value_Fold.f (a0 : ByteArray) : Option ByteArray := if a0.size ≤ 140737488351232 then some (foldB a0) else none
theorem foolscapref04_Fold.calls (a0 r : ByteArray) (w : World) (h : foolscapref04_Fold.f a0 = some r) :
    Calls Tryz.prog 45 #[.string a0] w fun e w' => e = .returned (.string r) ∧ Below w.heap.size w w' := by
  unfold foolscapref04_Fold.f at h
  split at h
  · rename_i c
    obtain rfl := Option.some.inj h
    obtain ⟨⟨l⟩⟩ := a0
    exact fold_calls l w c
  · cases h
theorem value_Fold.calls (a0 r : ByteArray) (w : World) (h : value_Fold.f a0 = some r) :
    Calls Tryz.prog 47 #[.string a0] w fun e w' => e = .returned (.string r) ∧ Below w.heap.size w w' := by
  unfold value_Fold.f at h
  split at h
  · rename_i c
    obtain rfl := Option.some.inj h
    obtain ⟨⟨l⟩⟩ := a0
    exact vfold_calls l w c
  · cases h
end Go.Proofs.YtngdggmlfoogcaaGreatDoor.Pr
end
section
namespace Go.Proofs.YtngdggmlfoogcaaGreatDoor.Pr
set_option linter.unusedVariables false
set_option linter.unusedSimpArgs false
open Go.RowKit Go.Proofs.YtngdggmlfoogcaaGreatDoorW.PrintWords Go.Proofs.YtngdggmlfoogcaaGreatDoorW.PrintLast Go.Proofs.YtngdggmlfoogcaaGreatDoorW.PrintMore
attribute [local go_sem] max2_int min2_int max_two min_two max_three min_three max_four min_four   -- for this text's walks alone
def numsOf (t : ByteArray) : List Int := t.data.toList.map fun c => (c.toNat : Int)
theorem numsOf_length (t : ByteArray) : (numsOf t).length = t.size := by
  unfold numsOf
  rw [List.length_map, Array.length_toList]
  rfl
theorem stepInfo : (Tryz.prog.info? 66).map (fun i => (i.zero, i.size, i.bytes)) = some (some (.agg #[(.bool false), (.bool false), (.int .u8 0)]), 3, 3) := by kernel_rfl
set_option maxRecDepth 100000 in
theorem conv_nums (w1 : World) (t : ByteArray) (ht : t.size ≤ 140737488351232) : ∃ (w : World) (cap : Nat) (A0 : Option Addr), (convert 9 62 (.string t)).run Tryz.prog w1 = .ok (.slice A0 (numsOf t).length cap) w ∧
    Kd.C (Kd.int .u8) w A0 (numsOf t).length (numsOf t) ∧ Below w1.heap.size w1 w ∧ (numsOf t).length ≤ cap := by
  have hconv := run_bytes_of_string (P := Tryz.prog) w1 9 62 5 t Tryz.underlying9 Tryz.underlying62 Tryz.underlying5
  rw [← numsOf_length] at hconv
  refine ⟨_, _, _, hconv, ?_, (Below.refl _ _).drew.alloc (Nat.le_refl _) _, ?_⟩
  · refine ⟨rfl, by rw [numsOf_length]; omega, fun _ => ⟨_, rfl, fun j p hp => ⟨[.int .u8 p], rfl, rfl, fun i u hu => ?_⟩⟩⟩
    have hj : j < t.size := by
      have := (List.getElem?_eq_some_iff.mp hp).1
      rw [numsOf_length] at this
      exact this
    match i, hu with
    | 0, hu =>
      cases hu
      have hat := bytesRow_at t (grownCap w1 (numsOf t).length 0 5) j hj
      have hv : p = ((t.data[j]'hj).toNat : Int) := by
        unfold numsOf at hp
        rw [List.getElem?_map, List.getElem?_eq_getElem (by rw [Array.length_toList]; exact hj)] at hp
        simpa using hp.symm
      have hc := World.cell?_alloc_mark w1.drew (bytesRow t (grownCap w1 (numsOf t).length 0 5)) 5 ((bytesRow t (grownCap w1 (numsOf t).length 0 5)).size, (bytesRow t (grownCap w1 (numsOf t).length 0 5)).size + 1) j
      have hadd : (⟨w1.heap.size, 0, none⟩ : Addr).add (j * (Kd.int IntKind.u8).sz + 0) = ⟨w1.drew.heap.size, j, none⟩ := by
        rw [add_plain]
        show (⟨w1.heap.size, _, none⟩ : Addr) = ⟨w1.heap.size, j, none⟩
        congr 1
        show j * 1 + 0 = j
        omega
      rw [hadd]
      refine Eq.trans hc ?_
      rw [hat, hv]
  · exact grownCap_ge _ _ _ _
mutual
def crit_stepsB.l0 : Nat → List (S66) → Bool → List Int → Int → Int → Option ((List (S66)))
  | 0, _, _, _, _, _ => none
  | k + 1, x3, x4, x9, x10, x11 => if x11 < x10 then (if 0 ≤ x11 then (if x11 < (x9.length : Int) then (if x4 = true then (crit_stepsB.j1 k x3 x4 (rd x9 x11) x9 x10 x11 true) else (if (rd x9 x11) = 126 then (crit_stepsB.j1 k x3 x4 (rd x9 x11) x9 x10 x11 false) else (if (rd x9 x11) = 63 then (crit_stepsB.j1 k x3 x4 (rd x9 x11) x9 x10 x11 false) else (crit_stepsB.j1 k x3 x4 (rd x9 x11) x9 x10 x11 ((rd x9 x11) != 42))))) else (none)) else (none)) else (if x4 = true then (if x3.length < 46912496118442 then (some (x3 ++ [(⟨false, false, 126⟩ : S66)])) else (none)) else (some x3))
def crit_stepsB.j1 : Nat → List (S66) → Bool → Int → List Int → Int → Int → Bool → Option ((List (S66)))
  | 0, _, _, _, _, _, _, _ => none
  | k + 1, x3, x4, x6, x9, x10, x11, x23 => if x23 = true then (if x3.length < 46912496118442 then (crit_stepsB.l0 k (x3 ++ [(⟨false, false, x6⟩ : S66)]) false x9 x10 (wrap64 (x11 + 1))) else (none)) else (if x6 = 126 then (crit_stepsB.l0 k x3 true x9 x10 (wrap64 (x11 + 1))) else (if x3.length < 46912496118442 then (crit_stepsB.l0 k (x3 ++ [(⟨(x6 == 63), (x6 == 42), 0⟩ : S66)]) x4 x9 x10 (wrap64 (x11 + 1))) else (none)))
end
def crit_stepsB.f (k : Nat) (l0 : List Int) : Option ((List (S66))) := crit_stepsB.l0 k ([] : List (S66)) false l0 (l0.length : Int) 0
set_option maxHeartbeats 8000000 in
set_option maxRecDepth 100000 in
theorem crit_stepsB_walk (k : Nat) (a0 t : ByteArray) (r : List (S66)) (wA : World) (hf : value_Fold.f a0 = some t) (ht : t.size ≤ 140737488351232) (h : crit_stepsB.f k (numsOf t) = some r) :
    Calls Tryz.prog 35 #[.string a0] wA fun e w' => ∃ v0_ : Value, e = .returned (v0_) ∧ Kd.R k66 66 w' wA.heap.size (fun _ => True) v0_ r ∧ Below wA.heap.size wA w' := by
  have hu41 := Tryz.underlying66
  have HF := Aside0.mk hf
  have HT := Aside0.mk ht
  clear hf ht
  obtain ⟨l0, hl0⟩ : ∃ l, l = numsOf t := ⟨_, rfl⟩
  rw [← hl0] at h
  have HL := Aside0.mk hl0
  clear hl0
  have H : (crit_stepsB.l0 k ([] : List (S66)) false l0 (l0.length : Int) 0) = some r := h
  clear h
  have H' := Aside0.mk H
  clear H
  go_enter Tryz.func35, Tryz.ntmps35
  go_wp2_with (go_at_call 47; (with_reducible refine (value_Fold.calls _ _ _ HF.out).mono ?_); rintro e w1 ⟨rfl, hbF⟩; obtain ⟨w, cap, A0, hconv, hr0, hbC, hc0⟩ := conv_nums w1 t HT.out; rw [← HL.out] at hconv hr0 hc0; have HR0 := Aside0.mk hr0; have HC0 := Aside0.mk hc0; have hall := Aside0.mk (hbF.trans (hbC.mono hbF.size)); have hle := Aside0.mk (Nat.le_trans hbF.size hbC.size); clear hr0 hc0 hbF hbC)
  have HB := Aside0.mk (Below.refl w.heap.size w)
  go_loopg [3, 4, 11] k (fun kq v3 v4 v11 w' => ∃ (x3_1 : List (S66)) (x4_1 : Bool) (x11_1 : Int), v4 = .bool x4_1 ∧ v11 = .int .i64 x11_1 ∧ Aside0 (crit_stepsB.l0 kq x3_1 x4_1 l0 (l0.length : Int) x11_1 = some r) ∧ Aside0 (kq ≤ k) ∧ Aside0 (Kd.R k66 66 w' w.heap.size (fun _ => True) v3 x3_1) ∧ Aside0 (Below w.heap.size w w'))
  case atStart => exact ⟨(([] : List (S66))), (false), (0), (by first | rfl | (simp; done) | (simp [*]; done)), (by first | rfl | (simp; done) | (simp [*]; done)), H', ⟨Nat.le_refl _⟩, ⟨by first | exact Kd.R_nil _ _ _ _ _ | exact Kd.N_nil _ _ _ _ _ | exact Kd.V_nil _ _ _ _ _ | exact Kd.Q_nil _ _ _ _ _ | exact Kd.S_nil _ _ _ _ _⟩, ⟨by repeat (first | (with_reducible first | exact HB.out | apply below_alloc | apply pw_below_drewN | apply below_drew1) | exact HB.out)⟩⟩
  case round =>
    clear H'
    try clear c1
    obtain ⟨x3_1, x4_1, x11_1, rfl, rfl, HA, HK1, HO_3, HB⟩ := hrel
    cases gk with
    | zero => exact absurd HA.out (by simp [crit_stepsB.l0])
    | succ k1 =>
      have H := HA.out
      clear HA
      simp only [crit_stepsB.l0] at H
      by_cases c2 : x11_1 < (l0.length : Int)
      · rw [if_pos c2] at H
        have c2b0 : decide (x11_1 < (l0.length : Int)) = true := decide_eq_true c2
        clear c2
        by_cases c3 : 0 ≤ x11_1
        · rw [if_pos c3] at H
          have c3b0 : decide (0 ≤ x11_1) = true := decide_eq_true c3
          clear c3
          by_cases c4 : x11_1 < (l0.length : Int)
          · rw [if_pos c4] at H
            have c4b0 : decide (x11_1 < (l0.length : Int)) = true := decide_eq_true c4
            clear c4
            have HC5 := Aside0.mk H
            clear H
            have p104 : 0 ≤ (x11_1 : Int) := of_decide_eq_true (by first | (with_reducible assumption) | assumption)
            have q104 : x11_1 < (l0.length : Int) := of_decide_eq_true (by first | (with_reducible assumption) | assumption)
            obtain ⟨ad104, e104, hx104_0⟩ := Kd.at_int HR0.out x11_1 p104 q104
            cases e104
            replace hx104_0 := (HB.out.cell (World.block_lt_of_cell? w _ hx104_0)).trans hx104_0
            replace p104 := eq_true p104
            replace q104 := eq_true q104
            go_upto_region 7 with (fail)
            go_cut [23] (fun v23 wc => ∃ (kq : Nat) (x23_4 : Bool), v23 = .bool x23_4 ∧ Aside0 (crit_stepsB.j1 kq x3_1 x4_1 (rd l0 x11_1) l0 (l0.length : Int) x11_1 x23_4 = some r) ∧ Aside0 (kq ≤ k1) ∧ Aside0 (Kd.R k66 66 wc w.heap.size (fun _ => True) u3 x3_1) ∧ Aside0 (Below w.heap.size w wc))
            case first =>
              have H := HC5.out
              clear HC5
              by_cases c6 : x4_1 = true
              · subst c6
                have H1 : (crit_stepsB.j1 k1 x3_1 true (rd l0 x11_1) l0 (l0.length : Int) x11_1 true) = some r := by rw [if_pos rfl] at H; exact H
                clear H
                have H := H1
                clear H1
                have H' := Aside0.mk H
                clear H
                go_wp2
                go_meet
                case rel => exact ⟨_, (true), (by first | rfl | (simp; done) | (simp [*]; done)), H', ⟨by have := HK1.out; first | omega | exact Nat.le_refl _⟩, ⟨by (with_reducible repeat (first | apply Kd.R_alloc | apply Kd.R_drewN | apply Kd.R_drew)); exact HO_3.out⟩, ⟨by repeat (first | (with_reducible first | exact HB.out | apply below_alloc | apply pw_below_drewN | apply below_drew1) | exact HB.out)⟩⟩
              · replace c6 := Bool.eq_false_iff.mpr c6
                subst c6
                have H1 : (if (rd l0 x11_1) = 126 then (crit_stepsB.j1 k1 x3_1 false (rd l0 x11_1) l0 (l0.length : Int) x11_1 false) else (if (rd l0 x11_1) = 63 then (crit_stepsB.j1 k1 x3_1 false (rd l0 x11_1) l0 (l0.length : Int) x11_1 false) else (crit_stepsB.j1 k1 x3_1 false (rd l0 x11_1) l0 (l0.length : Int) x11_1 ((rd l0 x11_1) != 42)))) = some r := by rw [if_neg (show ¬ (false = true) by decide)] at H; exact H
                clear H
                have H := H1
                clear H1
                by_cases c7 : (rd l0 x11_1) = 126
                · rw [if_pos c7] at H
                  have c7b0 : ((rd l0 x11_1) == 126) = true := beq_iff_eq.mpr c7
                  have c7b1 : ((rd l0 x11_1) != 126) = false := bne_eq_false_iff_eq.mpr c7
                  clear c7
                  (first | rw [c7b0] | (simp only [i64_w, i32_w]; rw [c7b0]) | skip)
                  have H' := Aside0.mk H
                  clear H
                  go_wp2
                  go_meet
                  case rel => exact ⟨_, (false), (by first | rfl | (simp; done) | (simp [*]; done)), H', ⟨by have := HK1.out; first | omega | exact Nat.le_refl _⟩, ⟨by (with_reducible repeat (first | apply Kd.R_alloc | apply Kd.R_drewN | apply Kd.R_drew)); exact HO_3.out⟩, ⟨by repeat (first | (with_reducible first | exact HB.out | apply below_alloc | apply pw_below_drewN | apply below_drew1) | exact HB.out)⟩⟩
                · rw [if_neg c7] at H
                  have c7b0 : ((rd l0 x11_1) == 126) = false := beq_eq_false_iff_ne.mpr c7
                  have c7b1 : ((rd l0 x11_1) != 126) = true := bne_iff_ne.mpr c7
                  (first | rw [c7b0] | (simp only [i64_w, i32_w]; rw [c7b0]) | skip)
                  by_cases c8 : (rd l0 x11_1) = 63
                  · rw [if_pos c8] at H
                    have c8b0 : ((rd l0 x11_1) == 63) = true := beq_iff_eq.mpr c8
                    have c8b1 : ((rd l0 x11_1) != 63) = false := bne_eq_false_iff_eq.mpr c8
                    clear c8
                    have H' := Aside0.mk H
                    clear H
                    go_wp2
                    go_meet
                    case rel => exact ⟨_, (false), (by first | rfl | (simp; done) | (simp [*]; done)), H', ⟨by have := HK1.out; first | omega | exact Nat.le_refl _⟩, ⟨by (with_reducible repeat (first | apply Kd.R_alloc | apply Kd.R_drewN | apply Kd.R_drew)); exact HO_3.out⟩, ⟨by repeat (first | (with_reducible first | exact HB.out | apply below_alloc | apply pw_below_drewN | apply below_drew1) | exact HB.out)⟩⟩
                  · rw [if_neg c8] at H
                    have c8b0 : ((rd l0 x11_1) == 63) = false := beq_eq_false_iff_ne.mpr c8
                    have c8b1 : ((rd l0 x11_1) != 63) = true := bne_iff_ne.mpr c8
                    have H' := Aside0.mk H
                    clear H
                    go_wp2
                    go_meet
                    case rel => exact ⟨_, (((rd l0 x11_1) != 42)), (by first | rfl | (simp; done) | (simp [*]; done)), H', ⟨by have := HK1.out; first | omega | exact Nat.le_refl _⟩, ⟨by (with_reducible repeat (first | apply Kd.R_alloc | apply Kd.R_drewN | apply Kd.R_drew)); exact HO_3.out⟩, ⟨by repeat (first | (with_reducible first | exact HB.out | apply below_alloc | apply pw_below_drewN | apply below_drew1) | exact HB.out)⟩⟩
            case rest =>
              clear HC5
              try clear c1
              try clear p1
              try clear q1
              try clear hx1
              try clear c2
              try clear c2b0
              try clear p2
              try clear c3
              try clear c3b0
              try clear c4
              try clear c4b0
              try clear c6
              try clear c7
              try clear c7b0
              try clear c7b1
              try clear c8
              try clear c8b0
              try clear c8b1
              try clear hx104_0
              try clear p104
              try clear q104
              obtain ⟨kq, x23_4, rfl, HA, HJ4, HO_3, HB⟩ := hcut
              cases kq with
              | zero => exact absurd HA.out (by simp [crit_stepsB.j1])
              | succ kj4 =>
                have H := HA.out
                clear HA
                simp only [crit_stepsB.j1] at H
                by_cases c9 : x23_4 = true
                · subst c9
                  have H1 : (if x3_1.length < 46912496118442 then (crit_stepsB.l0 kj4 (x3_1 ++ [(⟨false, false, (rd l0 x11_1)⟩ : S66)]) false l0 (l0.length : Int) (wrap64 (x11_1 + 1))) else (none)) = some r := by rw [if_pos rfl] at H; exact H
                  clear H
                  have H := H1
                  clear H1
                  by_cases c10 : x3_1.length < 46912496118442
                  · rw [if_pos c10] at H
                    have LMc10 := Aside0.mk c10
                    clear c10
                    obtain ⟨y105, hy105⟩ : ∃ y_ : List (S66), y_ = (x3_1 ++ [(⟨false, false, (rd l0 x11_1)⟩ : S66)]) := ⟨_, rfl⟩
                    replace H : (crit_stepsB.l0 kj4 y105 false l0 (l0.length : Int) (wrap64 (x11_1 + 1))) = some r := by first | (rw [hy105]; with_reducible exact H) | (have H2_ := (Option.bind_some _ _).symm.trans H; rw [hy105]; with_reducible exact H2_) | (have H2_ := (Option.bind_some _ _).symm.trans H; with_reducible exact H2_) | with_reducible exact H | (rw [hy105]; exact H) | exact H
                    have Ny105 := Aside0.mk hy105
                    clear hy105
                    have H' := Aside0.mk H
                    clear H
                    go_wp2_with (first | ((with_reducible refine gate_builtin (b := .append) (xs := #[.tmp 37, .tmp 40]) rfl ?_); at_builtin; refine Kd.R_append k66 (w0 := w) w.heap.size rfl (.tmp 37) (.tmp 40) 63 66 (.agg #[(.bool false), (.bool false), (.int .u8 0)]) 3 rfl Tryz.underlying63 stepInfo rfl (by decide) (by omega) u3 x3_1 (⟨false, false, (rd l0 x11_1)⟩ : S66) [.bool false, .bool false, .int .u8 (rd l0 x11_1)] (fun _ => True) (fun _ => False) rfl rfl ?aP (fun _ hk => hk.elim) ?aF ?aO ?aB ?aS ?aL ?_; (case aP => exact k66_mkM _ _ _ (⟨false, false, (rd l0 x11_1)⟩ : S66)); (case aB => exact (by repeat (first | (with_reducible first | exact HB.out | apply below_alloc | apply pw_below_drewN | apply below_drew1) | exact HB.out))); (case aF => exact (fun _ _ => trivial)); (case aO => exact (by (with_reducible repeat (first | apply Kd.R_alloc | apply Kd.R_drewN | apply Kd.R_drew)); exact HO_3.out)); (case aS => exact (below_size (by repeat (first | (with_reducible first | exact HB.out | apply below_alloc | apply pw_below_drewN | apply below_drew1) | exact HB.out)))); (case aL => have := LMc10.out; omega); intro v106 w11 ho hb hg hat; rw [← Ny105.out] at ho; have n0_ := Aside0.mk (hb); have n1_ := Aside0.mk (ho); clear HB; clear HO_3; have HB := n0_; have HO107 := n1_; clear n0_ n1_; clear ho hb hg hat))
                    go_roundg kj4
                    case measure => have := HK1.out; have := HJ4.out; omega
                    case rel => exact ⟨(y105), (false), (wrap64 (x11_1 + 1)), (by first | rfl | (simp; done) | (simp [*]; done)), (by first | rfl | (simp; done) | (simp [*]; done)), H', ⟨by have := HK1.out; have := HJ4.out; omega⟩, ⟨by (with_reducible repeat (first | apply Kd.R_alloc | apply Kd.R_drewN | apply Kd.R_drew)); exact HO107.out⟩, ⟨by repeat (first | (with_reducible first | exact HB.out | apply below_alloc | apply pw_below_drewN | apply below_drew1) | exact HB.out)⟩⟩
                  · rw [if_neg c10] at H
                    exact absurd H (by simp)
                · replace c9 := Bool.eq_false_iff.mpr c9
                  subst c9
                  have H1 : (if (rd l0 x11_1) = 126 then (crit_stepsB.l0 kj4 x3_1 true l0 (l0.length : Int) (wrap64 (x11_1 + 1))) else (if x3_1.length < 46912496118442 then (crit_stepsB.l0 kj4 (x3_1 ++ [(⟨((rd l0 x11_1) == 63), ((rd l0 x11_1) == 42), 0⟩ : S66)]) x4_1 l0 (l0.length : Int) (wrap64 (x11_1 + 1))) else (none))) = some r := by rw [if_neg (show ¬ (false = true) by decide)] at H; exact H
                  clear H
                  have H := H1
                  clear H1
                  by_cases c12 : (rd l0 x11_1) = 126
                  · rw [if_pos c12] at H
                    have c12b0 : ((rd l0 x11_1) == 126) = true := beq_iff_eq.mpr c12
                    have c12b1 : ((rd l0 x11_1) != 126) = false := bne_eq_false_iff_eq.mpr c12
                    clear c12
                    have H' := Aside0.mk H
                    clear H
                    go_wp2
                    go_roundg kj4
                    case measure => have := HK1.out; have := HJ4.out; omega
                    case rel => exact ⟨(x3_1), (true), (wrap64 (x11_1 + 1)), (by first | rfl | (simp; done) | (simp [*]; done)), (by first | rfl | (simp; done) | (simp [*]; done)), H', ⟨by have := HK1.out; have := HJ4.out; omega⟩, ⟨by (with_reducible repeat (first | apply Kd.R_alloc | apply Kd.R_drewN | apply Kd.R_drew)); exact HO_3.out⟩, ⟨by repeat (first | (with_reducible first | exact HB.out | apply below_alloc | apply pw_below_drewN | apply below_drew1) | exact HB.out)⟩⟩
                  · rw [if_neg c12] at H
                    have c12b0 : ((rd l0 x11_1) == 126) = false := beq_eq_false_iff_ne.mpr c12
                    have c12b1 : ((rd l0 x11_1) != 126) = true := bne_iff_ne.mpr c12
                    by_cases c13 : x3_1.length < 46912496118442
                    · rw [if_pos c13] at H
                      have LMc13 := Aside0.mk c13
                      clear c13
                      obtain ⟨y108, hy108⟩ : ∃ y_ : List (S66), y_ = (x3_1 ++ [(⟨((rd l0 x11_1) == 63), ((rd l0 x11_1) == 42), 0⟩ : S66)]) := ⟨_, rfl⟩
                      replace H : (crit_stepsB.l0 kj4 y108 x4_1 l0 (l0.length : Int) (wrap64 (x11_1 + 1))) = some r := by first | (rw [hy108]; with_reducible exact H) | (have H2_ := (Option.bind_some _ _).symm.trans H; rw [hy108]; with_reducible exact H2_) | (have H2_ := (Option.bind_some _ _).symm.trans H; with_reducible exact H2_) | with_reducible exact H | (rw [hy108]; exact H) | exact H
                      have Ny108 := Aside0.mk hy108
                      clear hy108
                      have H' := Aside0.mk H
                      clear H
                      go_wp2_with (first | ((with_reducible refine gate_builtin (b := .append) (xs := #[.tmp 15, .tmp 21]) rfl ?_); at_builtin; refine Kd.R_append k66 (w0 := w) w.heap.size rfl (.tmp 15) (.tmp 21) 63 66 (.agg #[(.bool false), (.bool false), (.int .u8 0)]) 3 rfl Tryz.underlying63 stepInfo rfl (by decide) (by omega) u3 x3_1 (⟨((rd l0 x11_1) == 63), ((rd l0 x11_1) == 42), 0⟩ : S66) [.bool ((rd l0 x11_1) == 63), .bool ((rd l0 x11_1) == 42), .int .u8 0] (fun _ => True) (fun _ => False) rfl rfl ?aP (fun _ hk => hk.elim) ?aF ?aO ?aB ?aS ?aL ?_; (case aP => exact k66_mkM _ _ _ (⟨((rd l0 x11_1) == 63), ((rd l0 x11_1) == 42), 0⟩ : S66)); (case aB => exact (by repeat (first | (with_reducible first | exact HB.out | apply below_alloc | apply pw_below_drewN | apply below_drew1) | exact HB.out))); (case aF => exact (fun _ _ => trivial)); (case aO => exact (by (with_reducible repeat (first | apply Kd.R_alloc | apply Kd.R_drewN | apply Kd.R_drew)); exact HO_3.out)); (case aS => exact (below_size (by repeat (first | (with_reducible first | exact HB.out | apply below_alloc | apply pw_below_drewN | apply below_drew1) | exact HB.out)))); (case aL => have := LMc13.out; omega); intro v109 w14 ho hb hg hat; rw [← Ny108.out] at ho; have n0_ := Aside0.mk (hb); have n1_ := Aside0.mk (ho); clear HB; clear HO_3; have HB := n0_; have HO110 := n1_; clear n0_ n1_; clear ho hb hg hat))
                      go_roundg kj4
                      case measure => have := HK1.out; have := HJ4.out; omega
                      case rel => exact ⟨(y108), (x4_1), (wrap64 (x11_1 + 1)), (by first | rfl | (simp; done) | (simp [*]; done)), (by first | rfl | (simp; done) | (simp [*]; done)), H', ⟨by have := HK1.out; have := HJ4.out; omega⟩, ⟨by (with_reducible repeat (first | apply Kd.R_alloc | apply Kd.R_drewN | apply Kd.R_drew)); exact HO110.out⟩, ⟨by repeat (first | (with_reducible first | exact HB.out | apply below_alloc | apply pw_below_drewN | apply below_drew1) | exact HB.out)⟩⟩
                    · rw [if_neg c13] at H
                      exact absurd H (by simp)
          · rw [if_neg c4] at H
            exact absurd H (by simp)
        · rw [if_neg c3] at H
          exact absurd H (by simp)
      · rw [if_neg c2] at H
        have c2b0 : decide (x11_1 < (l0.length : Int)) = false := decide_eq_false c2
        clear c2
        by_cases c15 : x4_1 = true
        · subst c15
          have H1 : (if x3_1.length < 46912496118442 then (some (x3_1 ++ [(⟨false, false, 126⟩ : S66)])) else (none)) = some r := by rw [if_pos rfl] at H; exact H
          clear H
          have H := H1
          clear H1
          by_cases c16 : x3_1.length < 46912496118442
          · rw [if_pos c16] at H
            have LMc16 := Aside0.mk c16
            clear c16
            obtain ⟨y101, hy101⟩ : ∃ y_ : List (S66), y_ = (x3_1 ++ [(⟨false, false, 126⟩ : S66)]) := ⟨_, rfl⟩
            replace H : (some y101) = some r := by first | (rw [hy101]; with_reducible exact H) | (have H2_ := (Option.bind_some _ _).symm.trans H; rw [hy101]; with_reducible exact H2_) | (have H2_ := (Option.bind_some _ _).symm.trans H; with_reducible exact H2_) | with_reducible exact H | (rw [hy101]; exact H) | exact H
            have Ny101 := Aside0.mk hy101
            clear hy101
            obtain rfl := Option.some.inj H
            go_wp2_with (first | ((with_reducible refine gate_builtin (b := .append) (xs := #[.tmp 47, .tmp 49]) rfl ?_); at_builtin; refine Kd.R_append k66 (w0 := w) w.heap.size rfl (.tmp 47) (.tmp 49) 63 66 (.agg #[(.bool false), (.bool false), (.int .u8 0)]) 3 rfl Tryz.underlying63 stepInfo rfl (by decide) (by omega) u3 x3_1 (⟨false, false, 126⟩ : S66) [.bool false, .bool false, .int .u8 126] (fun _ => True) (fun _ => False) rfl rfl ?aP (fun _ hk => hk.elim) ?aF ?aO ?aB ?aS ?aL ?_; (case aP => exact k66_mkM _ _ _ (⟨false, false, 126⟩ : S66)); (case aB => exact (by repeat (first | (with_reducible first | exact HB.out | apply below_alloc | apply pw_below_drewN | apply below_drew1) | exact HB.out))); (case aF => exact (fun _ _ => trivial)); (case aO => exact (by (with_reducible repeat (first | apply Kd.R_alloc | apply Kd.R_drewN | apply Kd.R_drew)); exact HO_3.out)); (case aS => exact (below_size (by repeat (first | (with_reducible first | exact HB.out | apply below_alloc | apply pw_below_drewN | apply below_drew1) | exact HB.out)))); (case aL => have := LMc16.out; omega); intro v102 w17 ho hb hg hat; rw [← Ny101.out] at ho; have n0_ := Aside0.mk (hb); have n1_ := Aside0.mk (ho); clear HB; clear HO_3; have HB := n0_; have HO103 := n1_; clear n0_ n1_; clear ho hb hg hat))
            go_ret
            exact ⟨_, by first | rfl | (simp [errW_none, errW_some] <;> rfl) | (simp [*, errW_none, errW_some] <;> rfl), Kd.R_lower (show Kd.R k66 66 _ w.heap.size (fun _ => True) _ _ from (by (with_reducible repeat (first | apply Kd.R_alloc | apply Kd.R_drewN | apply Kd.R_drew)); exact HO103.out)) hle.out, hall.out.trans ((show Below w.heap.size w _ from (by repeat (first | (with_reducible first | exact HB.out | apply below_alloc | apply pw_below_drewN | apply below_drew1) | exact HB.out))).mono hle.out)⟩
          · rw [if_neg c16] at H
            exact absurd H (by simp)
        · replace c15 := Bool.eq_false_iff.mpr c15
          subst c15
          have H1 : (some x3_1) = some r := by rw [if_neg (show ¬ (false = true) by decide)] at H; exact H
          clear H
          have H := H1
          clear H1
          obtain rfl := Option.some.inj H
          go_wp2
          go_ret
          exact ⟨_, by first | rfl | (simp [errW_none, errW_some] <;> rfl) | (simp [*, errW_none, errW_some] <;> rfl), Kd.R_lower (show Kd.R k66 66 _ w.heap.size (fun _ => True) _ _ from (by (with_reducible repeat (first | apply Kd.R_alloc | apply Kd.R_drewN | apply Kd.R_drew)); exact HO_3.out)) hle.out, hall.out.trans ((show Below w.heap.size w _ from (by repeat (first | (with_reducible first | exact HB.out | apply below_alloc | apply pw_below_drewN | apply below_drew1) | exact HB.out))).mono hle.out)⟩
def crit_steps.f (k : Nat) (a0 : ByteArray) : Option (List (S66)) := (value_Fold.f a0).bind fun t => if t.size ≤ 140737488351232 then crit_stepsB.f k (numsOf t) else none
theorem crit_steps.calls (k : Nat) (a0 : ByteArray) (r : List (S66)) (w : World) (h : crit_steps.f k a0 = some r) :
    Calls Tryz.prog 35 #[.string a0] w fun e w' => ∃ v0_ : Value, e = .returned (v0_) ∧ Kd.R k66 66 w' w.heap.size (fun _ => True) v0_ r ∧ Below w.heap.size w w' := by
  unfold crit_steps.f at h
  obtain ⟨t, hf, h⟩ := Option.bind_eq_some_iff.mp h
  split at h
  · rename_i ht
    exact crit_stepsB_walk k a0 t r w hf ht h
  · cases h
end Go.Proofs.YtngdggmlfoogcaaGreatDoor.Pr
end
