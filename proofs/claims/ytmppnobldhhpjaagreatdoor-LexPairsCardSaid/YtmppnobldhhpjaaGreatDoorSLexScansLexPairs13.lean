/-
  Lemmas for the law LexScansLexPairs.
-/
import Derived.Test.YtmppnobldhhpjaaGreatDoorSLexScansLexPairs4
import Derived.Below
import Derived.Laws.IdiomStrings
import Derived.Laws.NewBlocks
import Derived.Laws.RangeAny
import Derived.LoopTactic
import Derived.WalkKit
section
namespace Go.Proofs.YtmppnobldhhpjaaGreatDoor.Pr
set_option linter.unusedVariables false
set_option linter.unusedSimpArgs false
open Go.RowKit Go.Proofs.YtmppnobldhhpjaaGreatDoorW.PrintWords Go.Proofs.YtmppnobldhhpjaaGreatDoorW.PrintMore
def up (c : UInt8) : UInt8 := if 97 ≤ c.toNat ∧ c.toNat ≤ 122 then c - 32 else c
def foldAt (l : List UInt8) (k : Nat) : List UInt8 := (l.take k).map up ++ l.drop k
theorem foldAt_length (l : List UInt8) (k : Nat) : (foldAt l k).length = l.length := by unfold foldAt; simp; omega
def BytesAt (w : World) (B : Nat) (l : List UInt8) : Prop := ∀ j (h : j < l.length), w.cell? ⟨B, j, none⟩ = some (.int .u8 (l[j].toNat : Int)) ∧ w.frozen? ⟨B, j, none⟩ = false
theorem foldAt_get (l : List UInt8) (k j : Nat) (h : j < (foldAt l k).length) (h2 : j < l.length) : (foldAt l k)[j] = if j < k then up l[j] else l[j] := by
  have e : (foldAt l k)[j] = (List.map up (l.take k) ++ l.drop k)[j]'(by simpa [foldAt] using h) := rfl
  rw [e, List.getElem_append]
  split
  · rename_i hj
    simp at hj
    rw [if_pos (by omega)]
    simp
  · rename_i hj
    simp at hj
    rw [if_neg (by omega)]
    simp
    congr 1
    omega
theorem up_le (c : UInt8) (h : 97 ≤ c.toNat) (h2 : c.toNat ≤ 122) : ((up c).toNat : Int) = (c.toNat : Int) - 97 + 65 := by
  unfold up
  rw [if_pos ⟨h, h2⟩, UInt8.toNat_sub_of_le _ _ (by rw [UInt8.le_iff_toNat_le]; show 32 ≤ _; omega)]
  show ((c.toNat - 32 : Nat) : Int) = _
  omega
theorem up_no (c : UInt8) (h : ¬ (97 ≤ c.toNat ∧ c.toNat ≤ 122)) : up c = c := by unfold up; rw [if_neg h]
theorem foldAt_zero (l : List UInt8) : foldAt l 0 = l := by simp [foldAt]
theorem foldAt_all (l : List UInt8) (k : Nat) (h : ¬ k < l.length) : foldAt l k = l.map up := by
  unfold foldAt
  rw [List.take_of_length_le (by omega), List.drop_of_length_le (by omega), List.append_nil]
theorem bytesAt_same {w : World} {B : Nat} {l : List UInt8} {k : Nat} (h : BytesAt w B (foldAt l k)) (hk : k < l.length) (hu : up l[k] = l[k]) : BytesAt w B (foldAt l (k + 1)) := by
  intro j hj
  have hj2 : j < l.length := by rw [foldAt_length] at hj; exact hj
  have := h j (by rw [foldAt_length]; exact hj2)
  rw [foldAt_get l k j _ hj2] at this
  rw [foldAt_get l (k + 1) j _ hj2]
  by_cases c : j < k
  · rw [if_pos c] at this; rw [if_pos (by omega)]; exact this
  · rw [if_neg c] at this
    by_cases c2 : j = k
    · subst c2; rw [if_pos (by omega), hu]; exact this
    · rw [if_neg (by omega)]; exact this
theorem bytesAt_set {w : World} {B : Nat} {l : List UInt8} {k : Nat} (h : BytesAt w B (foldAt l k)) (hk : k < l.length) (v : Int) (hv : v = ((up l[k]).toNat : Int)) : BytesAt (w.setCell ⟨B, k, none⟩ (.int .u8 v)) B (foldAt l (k + 1)) := by
  subst hv
  intro j hj
  have hj2 : j < l.length := by rw [foldAt_length] at hj; exact hj
  have h1 := h j (by rw [foldAt_length]; exact hj2)
  have hkk := h k (by rw [foldAt_length]; exact hk)
  rw [foldAt_get l k j _ hj2] at h1
  rw [foldAt_get l (k + 1) j _ hj2]
  refine ⟨?_, by rw [World.frozen?_setCell]; exact h1.2⟩
  by_cases c2 : j = k
  · subst c2; rw [if_pos (by omega)]; exact World.cell?_setCell_same _ _ _ hkk.1
  · rw [World.cell?_setCell_other _ _ _ _ (by first | (simp; done) | (simp; omega))]
    by_cases c : j < k
    · rw [if_pos c] at h1; rw [if_pos (by omega)]; exact h1.1
    · rw [if_neg c] at h1; rw [if_neg (by omega)]; exact h1.1
theorem bytesAt_back {P : Program} {w : World} {B : Nat} {l : List UInt8} {src dst e : TypeId} (cap : Nat) (h : BytesAt w B l) (hs : P.underlying src = some (.slice e)) (he : P.underlying e = some (.int .u8)) (hd : P.underlying dst = some .string) (n : Nat) (hn : n = l.length) :
    (convert src dst (.slice (some ⟨B, 0, none⟩) n cap)).run P w = .ok (.string ⟨l.toArray⟩) w := by
  subst hn
  exact run_convert_bytes_back w src dst e ⟨B, 0, none⟩ cap l hs he hd (fun j hj => by rw [add_plain]; first | exact (h j hj).1 | (rw [Nat.zero_add]; exact (h j hj).1))
theorem setCell_heap_size (w : World) (a : Addr) (v : Value) : (w.setCell a v).heap.size = w.heap.size := by unfold World.setCell; simp
theorem bytesAt_new (w : World) (l : List UInt8) (cap : Nat) : BytesAt (w.drew.alloc (.cells (bytesRow ⟨l.toArray⟩ cap) 5 ((bytesRow ⟨l.toArray⟩ cap).size, (bytesRow ⟨l.toArray⟩ cap).size + 1))) w.heap.size l := by
  intro j hj
  have hsz : l.length ≤ (bytesRow ⟨l.toArray⟩ cap).size := by simp [bytesRow]
  refine ⟨?_, ?_⟩
  · have := bytesRow_at ⟨l.toArray⟩ cap j (by simpa using hj)
    show (w.drew.alloc _).cell? ⟨w.drew.heap.size, j, none⟩ = _
    rw [World.cell?_alloc_mark, this]
    simp
  · show (w.drew.alloc _).frozen? ⟨w.drew.heap.size, j, none⟩ = _
    rw [World.frozen?_alloc_mark]
    simp
    omega
set_option maxHeartbeats 4000000 in
set_option maxRecDepth 100000 in
theorem fold_walk (l : List UInt8) (w : World) (cap : Nat) (w1 : World) (hl : l.length ≤ 140737488351232)
    (hconv : (convert 9 31 (.string ⟨l.toArray⟩)).run Tryz.prog w = .ok (.slice (some ⟨w.heap.size, 0, none⟩) l.length cap) w1)
    (hb : BytesAt w1 w.heap.size (foldAt l 0)) (hbel : Below w.heap.size w w1) (hsz : w.heap.size < w1.heap.size) :
    Calls Tryz.prog 36 #[.string ⟨l.toArray⟩] w fun e w' => e = .returned (.string ⟨(l.map up).toArray⟩) ∧ Below w.heap.size w w' := by
  go_enter Tryz.func36, Tryz.ntmps36
  go_wp2
  go_loopw [4] (fun n wr => ∃ k : Nat, k ≤ l.length ∧ n = .int .i64 k ∧ BytesAt wr w.heap.size (foldAt l k) ∧ Below w.heap.size w wr ∧ w.heap.size < wr.heap.size) (fun n _ => l.length - (intOf n).toNat)
  case atStart => exact ⟨0, Nat.zero_le _, rfl, hb, hbel, hsz⟩
  case round =>
    obtain ⟨k, hk, rfl, hb, hbel, hsz⟩ := hrel
    by_cases hlt : k < l.length
    · have hck := hb k (by rw [foldAt_length]; exact hlt)
      rw [foldAt_get l k k _ hlt, if_neg (Nat.lt_irrefl k)] at hck
      obtain ⟨hc, hf⟩ := hck
      go_wp2
      · have h1 : 97 ≤ (l[k].toNat : Int) := by assumption
        have h2 : (l[k].toNat : Int) ≤ 122 := by assumption
        refine ⟨⟨k + 1, hlt, by go_num, bytesAt_set hb hlt _ (up_le l[k] (by omega) (by omega)).symm, hbel.setCell (Nat.le_refl _) _, by rw [setCell_heap_size]; exact hsz⟩, ?_⟩
        simp [intOf]; omega
      · have h2 : 122 < (l[k].toNat : Int) := by assumption
        refine ⟨⟨k + 1, hlt, by go_num, bytesAt_same hb hlt (up_no _ (by omega)), hbel, hsz⟩, ?_⟩
        simp [intOf]; omega
      · have h1 : ¬ 97 ≤ (l[k].toNat : Int) := by assumption
        refine ⟨⟨k + 1, hlt, by go_num, bytesAt_same hb hlt (up_no _ (by omega)), hbel, hsz⟩, ?_⟩
        simp [intOf]; omega
    · rw [foldAt_all l k hlt] at hb
      have hback := bytesAt_back (P := Tryz.prog) (src := 31) (dst := 9) (e := 5) cap hb Tryz.underlying31 Tryz.underlying5 Tryz.underlying9 l.length (by simp)
      go_wp2
      go_ret
      exact ⟨rfl, hbel⟩
theorem fold_calls (l : List UInt8) (w : World) (hl : l.length ≤ 140737488351232) :
    Calls Tryz.prog 36 #[.string ⟨l.toArray⟩] w fun e w' => e = .returned (.string ⟨(l.map up).toArray⟩) ∧ Below w.heap.size w w' := by
  have hconv := run_bytes_of_string (P := Tryz.prog) w 9 31 5 ⟨l.toArray⟩ Tryz.underlying9 Tryz.underlying31 Tryz.underlying5
  refine fold_walk l w _ _ hl hconv ?_ ?_ ?_
  · rw [foldAt_zero]; exact bytesAt_new w l _
  · exact (Below.refl _ _).drew.alloc (Nat.le_refl _) _
  · show w.heap.size < (w.heap.push _).size
    simp
theorem get_bang (l : List UInt8) (k : Nat) (h : k < l.length) : (⟨l.toArray⟩ : ByteArray).get! k = l[k] := by
  show (l.toArray)[k]! = _
  rw [getElem!_pos (l.toArray) k (by simpa using h)]
  simp
theorem get_at0 (l : List UInt8) (k : Nat) (h : k < l.length) : (⟨l.toArray⟩ : ByteArray)[k]'(by simpa [ByteArray.size] using h) = l[k] := by
  show (l.toArray)[k] = _
  simp
theorem decode_cont (s : ByteArray) (i t : Nat) (h1 : 1 ≤ t) (h2 : t < (Utf8.decode s i).2) : i + t < s.size ∧ 128 ≤ (s.get! (i + t)).toNat := by
  have key : ∀ k, (decide (i + k < s.size) && (s.get! (i + k)).toNat / 64 == 2) = true → i + k < s.size ∧ 128 ≤ (s.get! (i + k)).toNat := by
    intro k hk
    simp only [Bool.and_eq_true, decide_eq_true_eq, beq_iff_eq] at hk
    exact ⟨hk.1, by omega⟩
  simp only [Utf8.decode] at h2
  repeat' split at h2
  all_goals dsimp only at h2
  all_goals try (exfalso; omega)
  · rename_i _ h _
    obtain rfl : t = 1 := by omega
    exact key 1 (Bool.and_eq_true_iff.1 h).2
  · rename_i _ _ h _
    have h' := Bool.and_eq_true_iff.1 h
    rcases (show t = 1 ∨ t = 2 by omega) with rfl | rfl
    · exact key 1 (Bool.and_eq_true_iff.1 h'.1).2
    · exact key 2 h'.2
  · rename_i _ _ _ h _
    have h' := Bool.and_eq_true_iff.1 h
    have h'' := Bool.and_eq_true_iff.1 h'.1
    rcases (show t = 1 ∨ t = 2 ∨ t = 3 by omega) with rfl | rfl | rfl
    · exact key 1 (Bool.and_eq_true_iff.1 h''.1).2
    · exact key 2 h''.2
    · exact key 3 h'.2
theorem decode_le_end (s : ByteArray) (i : Nat) (h : i < s.size) : i + (Utf8.decode s i).2 ≤ s.size := by
  by_cases c : (Utf8.decode s i).2 ≤ 1
  · omega
  · have := (decode_cont s i ((Utf8.decode s i).2 - 1) (by omega) (by omega)).1
    omega
theorem bytesAt_skip {w : World} {B : Nat} {l : List UInt8} {k : Nat} (h : BytesAt w B (foldAt l k)) (n : Nat) (hk : k + n ≤ l.length) (hu : ∀ j (hj : j < l.length), k ≤ j → j < k + n → up l[j] = l[j]) : BytesAt w B (foldAt l (k + n)) := by
  induction n with
  | zero => exact h
  | succ n ih => exact bytesAt_same (k := k + n) (ih (by omega) (fun j hj h1 h2 => hu j hj h1 (by omega))) (show k + n < l.length by omega) (hu (k + n) (by omega) (by omega) (by omega))
theorem iter_setCell (w : World) (s : ByteArray) (p : Nat) (a : Addr) (v : Value) (h : a.block < w.heap.size) : (w.iter s p).setCell a v = (w.setCell a v).iter s p := by
  unfold World.setCell World.iter World.alloc
  simp only
  congr 1
  apply Array.ext
  · simp
  · intro i h1 h2
    simp only [Array.getElem_modify, Array.getElem_push]
    simp at h1
    by_cases hb : a.block = i
    · subst hb
      simp [h]
    · simp [hb]
theorem iter_cell (w : World) (s : ByteArray) (p : Nat) (a : Addr) (h : a.block < w.heap.size) : (w.iter s p).cell? a = w.cell? a := by
  unfold World.cell? World.iter World.alloc
  simp [Array.getElem?_push, Nat.ne_of_lt h]
theorem iter_frozen (w : World) (s : ByteArray) (p : Nat) (a : Addr) (h : a.block < w.heap.size) : (w.iter s p).frozen? a = w.frozen? a := by
  unfold World.frozen? World.iter World.alloc
  simp [Array.getElem?_push, Nat.ne_of_lt h]
theorem bytesAt_iter {w : World} {B : Nat} {l : List UInt8} (s : ByteArray) (p : Nat) (h : B < w.heap.size) : BytesAt (w.iter s p) B l ↔ BytesAt w B l := by
  unfold BytesAt
  constructor
  · intro H j hj
    have := H j hj
    rw [iter_cell _ _ _ _ h, iter_frozen _ _ _ _ h] at this
    exact this
  · intro H j hj
    rw [iter_cell _ _ _ _ h, iter_frozen _ _ _ _ h]
    exact H j hj
theorem up_high (c : UInt8) (h : 128 ≤ c.toNat) : up c = c := up_no c (by omega)
set_option maxHeartbeats 4000000 in
set_option maxRecDepth 100000 in
theorem vfold_walk (l : List UInt8) (w : World) (cap : Nat) (w1 : World) (hl : l.length ≤ 140737488351232)
    (hconv : (convert 9 31 (.string ⟨l.toArray⟩)).run Tryz.prog w = .ok (.slice (some ⟨w.heap.size, 0, none⟩) l.length cap) w1)
    (hb : BytesAt w1 w.heap.size (foldAt l 0)) (hbel : Below w.heap.size w w1) (hsz : w.heap.size < w1.heap.size) :
    Calls Tryz.prog 46 #[.string ⟨l.toArray⟩] w fun e w' => e = .returned (.string ⟨(l.map up).toArray⟩) ∧ Below w.heap.size w w' := by
  go_enter Tryz.func46, Tryz.ntmps46
  go_wp2
  go_loopw [] (fun wr => ∃ (k : Nat) (w0 : World), k ≤ l.length ∧ wr = w0.iter ⟨l.toArray⟩ k ∧ w0.heap.size = w1.heap.size ∧ BytesAt w0 w.heap.size (foldAt l k) ∧ Below w.heap.size w w0) (fun wr => l.length - wr.iterPos w1.heap.size)
  case atStart => exact ⟨0, w1, Nat.zero_le _, rfl, rfl, hb, hbel⟩
  case round =>
    obtain ⟨k, w0, hk, rfl, hs0, hb0, hbel0⟩ := hrel
    have hpos : (w0.iter ⟨l.toArray⟩ k).iterPos w1.heap.size = k := by rw [← hs0]; exact World.iterPos_iter _ _ _
    by_cases hlt : k < l.length
    · have hck := hb0 k (by rw [foldAt_length]; exact hlt)
      rw [foldAt_get l k k _ hlt, if_neg (Nat.lt_irrefl k)] at hck
      obtain ⟨hc, hf⟩ := hck
      have hBs : w.heap.size < w0.heap.size := by omega
      have hsize : k < (⟨l.toArray⟩ : ByteArray).size := by simpa [ByteArray.size] using hlt
      have hnx : (Instr.next (.pointer (some ⟨w1.heap.size, 0, none⟩)) true 0).run Tryz.prog (w0.iter ⟨l.toArray⟩ k) = .ok (.tuple #[.bool true, .int .i64 k, .int .i32 (Utf8.decode ⟨l.toArray⟩ k).1]) (w0.iter ⟨l.toArray⟩ (k + (Utf8.decode ⟨l.toArray⟩ k).2)) := by
        rw [← hs0]; exact run_next_any w0 ⟨l.toArray⟩ k 0 hsize
      by_cases ha : l[k].toNat < 128
      · have hd : Utf8.decode ⟨l.toArray⟩ k = (l[k].toNat, 1) := by
          have := decode_ascii ⟨l.toArray⟩ k hsize (by rw [get_at0 l k hlt]; exact ha)
          rw [get_at0 l k hlt] at this
          exact this
        rw [hd] at hnx
        have hci : (w0.iter ⟨l.toArray⟩ (k + 1)).cell? ⟨w.heap.size, k, none⟩ = some (.int .u8 (l[k].toNat : Int)) := by rw [iter_cell _ _ _ _ hBs]; exact hc
        have hfi : (w0.iter ⟨l.toArray⟩ (k + 1)).frozen? ⟨w.heap.size, k, none⟩ = false := by rw [iter_frozen _ _ _ _ hBs]; exact hf
        have hpos1 : (w0.iter ⟨l.toArray⟩ (k + 1)).iterPos w1.heap.size = k + 1 := by rw [← hs0]; exact World.iterPos_iter _ _ _
        go_wp2
        · have h1 : 97 ≤ (l[k].toNat : Int) := by assumption
          have h2 : (l[k].toNat : Int) ≤ 122 := by assumption
          rw [iter_setCell _ _ _ _ _ hBs]
          refine ⟨⟨k + 1, _, hlt, rfl, by rw [setCell_heap_size]; exact hs0, bytesAt_set hb0 hlt _ (by rw [up_le l[k] (by omega) (by omega)]; omega), hbel0.setCell (Nat.le_refl _) _⟩, ?_⟩
          have hp2 : ((w0.setCell ⟨w.heap.size, k, none⟩ (.int .u8 ((l[k].toNat : Int) - 32))).iter ⟨l.toArray⟩ (k + 1)).iterPos w1.heap.size = k + 1 := by
            rw [show w1.heap.size = (w0.setCell ⟨w.heap.size, k, none⟩ (.int .u8 ((l[k].toNat : Int) - 32))).heap.size by rw [setCell_heap_size, hs0]]
            exact World.iterPos_iter _ _ _
          rw [hp2, hpos]
          omega
        · have h2 : 122 < (l[k].toNat : Int) := by assumption
          refine ⟨⟨k + 1, w0, hlt, rfl, hs0, bytesAt_same hb0 hlt (up_no _ (by omega)), hbel0⟩, ?_⟩
          rw [hpos1, hpos]; omega
        · have h1 : ¬ 97 ≤ (l[k].toNat : Int) := by assumption
          refine ⟨⟨k + 1, w0, hlt, rfl, hs0, bytesAt_same hb0 hlt (up_no _ (by omega)), hbel0⟩, ?_⟩
          rw [hpos1, hpos]; omega
      · have hd := decode_high ⟨l.toArray⟩ k hsize (by rw [get_at0 l k hlt]; omega)
        have hend := decode_le_end ⟨l.toArray⟩ k hsize
        have hcont := decode_cont ⟨l.toArray⟩ k
        have hle := decode_le ⟨l.toArray⟩ k
        rw [show (⟨l.toArray⟩ : ByteArray).size = l.length by simp [ByteArray.size]] at hend
        obtain ⟨d, hde⟩ : ∃ d, Utf8.decode ⟨l.toArray⟩ k = d := ⟨_, rfl⟩
        rw [hde] at hnx hd hend hcont hle
        obtain ⟨c, n⟩ := d
        simp only at hnx hd hend hcont hle
        clear hde
        have hb2 : BytesAt w0 w.heap.size (foldAt l (k + n)) := by
          refine bytesAt_skip hb0 n hend fun j hj h1 h2 => up_high _ ?_
          by_cases e : j = k
          · subst e; omega
          · have := (hcont (j - k) (by omega) (by omega)).2
            rw [show k + (j - k) = j by omega, get_bang l j hj] at this
            exact this
        have hpos1 : (w0.iter ⟨l.toArray⟩ (k + n)).iterPos w1.heap.size = k + n := by rw [← hs0]; exact World.iterPos_iter _ _ _
        have hc97 : (97 : Int) ≤ c := by omega
        have hc122 : (122 : Int) < c := by omega
        clear hcont
        go_wp2
        refine ⟨⟨k + n, w0, hend, rfl, hs0, hb2, hbel0⟩, ?_⟩
        rw [hpos1, hpos]
        omega
    · have hnx : (Instr.next (.pointer (some ⟨w1.heap.size, 0, none⟩)) true 0).run Tryz.prog (w0.iter ⟨l.toArray⟩ k) = .ok (.tuple #[.bool false]) (w0.iter ⟨l.toArray⟩ k) := by
        rw [← hs0]; exact run_next_end w0 ⟨l.toArray⟩ k 0 (by simpa [ByteArray.size] using hlt)
      rw [foldAt_all l k hlt] at hb0
      have hBs : w.heap.size < w0.heap.size := by omega
      have hback := bytesAt_back (P := Tryz.prog) (src := 31) (dst := 9) (e := 5) cap ((bytesAt_iter ⟨l.toArray⟩ k hBs).2 hb0) Tryz.underlying31 Tryz.underlying5 Tryz.underlying9 l.length (by simp)
      go_wp2
      go_ret
      exact ⟨rfl, hbel0.alloc (Nat.le_of_lt hBs) _⟩
theorem vfold_calls (l : List UInt8) (w : World) (hl : l.length ≤ 140737488351232) :
    Calls Tryz.prog 46 #[.string ⟨l.toArray⟩] w fun e w' => e = .returned (.string ⟨(l.map up).toArray⟩) ∧ Below w.heap.size w w' := by
  have hconv := run_bytes_of_string (P := Tryz.prog) w 9 31 5 ⟨l.toArray⟩ Tryz.underlying9 Tryz.underlying31 Tryz.underlying5
  refine vfold_walk l w _ _ hl hconv ?_ ?_ ?_
  · rw [foldAt_zero]; exact bytesAt_new w l _
  · exact (Below.refl _ _).drew.alloc (Nat.le_refl _) _
  · show w.heap.size < (w.heap.push _).size
    simp
def foldB (a : ByteArray) : ByteArray := ⟨(a.data.toList.map up).toArray⟩
def foolscapref04_Fold.f (a0 : ByteArray) : Option ByteArray := if a0.size ≤ 140737488351232 then some (foldB a0) else none
def value_Fold.f (a0 : ByteArray) : Option ByteArray := if a0.size ≤ 140737488351232 then some (foldB a0) else none
theorem foolscapref04_Fold.calls (a0 r : ByteArray) (w : World) (h : foolscapref04_Fold.f a0 = some r) :
    Calls Tryz.prog 36 #[.string a0] w fun e w' => e = .returned (.string r) ∧ Below w.heap.size w w' := by
  unfold foolscapref04_Fold.f at h
  split at h
  · rename_i c
    obtain rfl := Option.some.inj h
    obtain ⟨⟨l⟩⟩ := a0
    exact fold_calls l w c
  · cases h
theorem value_Fold.calls (a0 r : ByteArray) (w : World) (h : value_Fold.f a0 = some r) :
    Calls Tryz.prog 46 #[.string a0] w fun e w' => e = .returned (.string r) ∧ Below w.heap.size w w' := by
  unfold value_Fold.f at h
  split at h
  · rename_i c
    obtain rfl := Option.some.inj h
    obtain ⟨⟨l⟩⟩ := a0
    exact vfold_calls l w c
  · cases h
end Go.Proofs.YtmppnobldhhpjaaGreatDoor.Pr
end
section
namespace Go.Proofs.YtmppnobldhhpjaaGreatDoor.Pr
open Go.RowKit Go.Proofs.YtmppnobldhhpjaaGreatDoorW.PrintWords Go.Proofs.YtmppnobldhhpjaaGreatDoorW.PrintLast Go.Proofs.YtmppnobldhhpjaaGreatDoorW.PrintMore
attribute [local go_sem] max2_int min2_int max_two min_two max_three min_three max_four min_four   -- for this text's walks alone
set_option linter.unusedVariables false
set_option linter.unusedSimpArgs false
def value_truth.f (a0 : ByteArray) : Option (Bool × Bool) := (value_Fold.f a0).bind fun t122 => (if t122.toList = ([84, 82, 85, 69] : List UInt8) then (some ((t122.toList == ([84, 82, 85, 69] : List UInt8)), true)) else (some ((t122.toList == ([84, 82, 85, 69] : List UInt8)), (t122.toList == ([70, 65, 76, 83, 69] : List UInt8)))))
set_option maxHeartbeats 8000000 in
set_option maxRecDepth 100000 in
theorem value_truth.calls (a0 : ByteArray) (r1 : Bool) (r2 : Bool) (w : World) (h : value_truth.f a0 = some (r1, r2)) :
  Calls Tryz.prog 64 #[.string a0] w fun e w' => e = .returned (.tuple #[.bool r1, .bool r2]) ∧ Below w.heap.size w w' := by
 have HB := Aside0.mk (Below.refl w.heap.size w)
 have H : ((value_Fold.f a0).bind fun t122 => (if t122.toList = ([84, 82, 85, 69] : List UInt8) then (some ((t122.toList == ([84, 82, 85, 69] : List UInt8)), true)) else (some ((t122.toList == ([84, 82, 85, 69] : List UInt8)), (t122.toList == ([70, 65, 76, 83, 69] : List UInt8)))))) = some (r1, r2) := h
 clear h
 replace H := Option.bind_eq_some_iff.mp H
 obtain ⟨t122, A20, H⟩ := H
 replace H : (if t122.toList = ([84, 82, 85, 69] : List UInt8) then (some ((t122.toList == ([84, 82, 85, 69] : List UInt8)), true)) else (some ((t122.toList == ([84, 82, 85, 69] : List UInt8)), (t122.toList == ([70, 65, 76, 83, 69] : List UInt8))))) = some (r1, r2) := H
 have A2 := Aside0.mk A20
 clear A20
 by_cases c3 : t122.toList = ([84, 82, 85, 69] : List UInt8)
 ·rw [if_pos c3] at H
  have c3b0 : (t122.toList == ([84, 82, 85, 69] : List UInt8)) = true := beq_iff_eq.mpr c3
  have c3b1 : (t122.toList != ([84, 82, 85, 69] : List UInt8)) = false := bne_eq_false_iff_eq.mpr c3
  clear c3
  simp only [Option.some.injEq, Prod.mk.injEq] at H
  obtain ⟨rfl, rfl⟩ := H
  go_enter Tryz.func64, Tryz.ntmps64
  go_wp2_with (first | ((with_reducible refine gate_callee (f := 46) rfl ?_); refine goesL_ (some 6) rfl rfl Tryz.func46 (by kernel_rfl) rfl #[.string a0] rfl (by (try simp only [List.map_toArray, List.map_cons, List.map_nil]); first | done | rfl) ?_; (with_reducible refine (value_Fold.calls a0 t122 _ A2.out).mono ?_); rintro e w4 ⟨rfl, hb⟩; refine ⟨_, rfl, ?_⟩; have n0_ := Aside0.mk (below_step (by repeat (first | (with_reducible first | exact HB.out | apply bqA | apply bqN | apply bqD) | exact HB.out)) hb); clear HB; have HB := n0_; clear n0_; (try clear hb); (try clear hb2); (try clear hk); (try clear hi)))
  go_ret2
  exact ⟨by first | rfl | (simp [errW_none, errW_some] <;> rfl) | (simp [*, errW_none, errW_some] <;> rfl), by repeat (first | (with_reducible first | exact HB.out | apply bqA | apply bqN | apply bqD) | exact HB.out)⟩
 ·rw [if_neg c3] at H
  have c3b0 : (t122.toList == ([84, 82, 85, 69] : List UInt8)) = false := beq_eq_false_iff_ne.mpr c3
  have c3b1 : (t122.toList != ([84, 82, 85, 69] : List UInt8)) = true := bne_iff_ne.mpr c3
  simp only [Option.some.injEq, Prod.mk.injEq] at H
  obtain ⟨rfl, rfl⟩ := H
  go_enter Tryz.func64, Tryz.ntmps64
  go_wp2_with (first | ((with_reducible refine gate_callee (f := 46) rfl ?_); refine goesL_ (some 6) rfl rfl Tryz.func46 (by kernel_rfl) rfl #[.string a0] rfl (by (try simp only [List.map_toArray, List.map_cons, List.map_nil]); first | done | rfl) ?_; (with_reducible refine (value_Fold.calls a0 t122 _ A2.out).mono ?_); rintro e w5 ⟨rfl, hb⟩; refine ⟨_, rfl, ?_⟩; have n0_ := Aside0.mk (below_step (by repeat (first | (with_reducible first | exact HB.out | apply bqA | apply bqN | apply bqD) | exact HB.out)) hb); clear HB; have HB := n0_; clear n0_; (try clear hb); (try clear hb2); (try clear hk); (try clear hi)))
  go_ret2
  exact ⟨by first | rfl | (simp [errW_none, errW_some] <;> rfl) | (simp [*, errW_none, errW_some] <;> rfl), by repeat (first | (with_reducible first | exact HB.out | apply bqA | apply bqN | apply bqD) | exact HB.out)⟩
end Go.Proofs.YtmppnobldhhpjaaGreatDoor.Pr
end
