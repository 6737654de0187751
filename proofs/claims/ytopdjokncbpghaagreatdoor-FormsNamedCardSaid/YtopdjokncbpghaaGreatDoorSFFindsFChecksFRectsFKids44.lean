/-
  Lemmas for the law FFindsFChecksFRectsFKids.
-/
import Derived.Test.YtopdjokncbpghaaGreatDoorSFFindsFChecksFRectsFKids22
import Derived.Test.YtopdjokncbpghaaGreatDoorSFFindsFChecksFRectsFKids43
import Derived.Carry
set_option maxHeartbeats 8000000
set_option maxRecDepth 100000
set_option linter.unusedVariables false
set_option linter.unusedSimpArgs false
section
namespace Go.Proofs.YtopdjokncbpghaaGreatDoor.Args
set_option maxRecDepth 100000
open Go.ChangeShapes Go.WideShapes Go.ChangeMaps Go.Joins Go.Proofs.YtopdjokncbpghaaGreatDoor.Pr Go.Proofs.YtopdjokncbpghaaGreatDoorW.PrintWords
section
variable {H : Type} {enc : TypeId × Value → H} {w : World} {base : Nat} {spare : Nat → Bool} {held : Bool}
theorem cells_Node : Tryz.prog.cellsOf 44 = 16 := by kernel_rfl
theorem cells_Cell : Tryz.prog.cellsOf 41 = 4 := by kernel_rfl
theorem cells_At : Tryz.prog.cellsOf 39 = 2 := by kernel_rfl
theorem cells_NodeKind : Tryz.prog.cellsOf 33 = 1 := by kernel_rfl
theorem cells_Kids : Tryz.prog.cellsOf 42 = 1 := by kernel_rfl
theorem add_add (a : Addr) (n m : Nat) : (a.add n).add m = a.add (n + m) := by
 unfold Addr.add
 by_cases hn : n = 0
 ·subst hn
  simp
 ·by_cases hm : m = 0
  ·subst hm
   simp
  ·rw [if_neg hn, if_neg hm, if_neg (by omega)]
   simp only
   congr 1
   omega
theorem trod_At {fuel : Nat} {cs : List Value} {x : DataW H × List MemPlace} (h : DataW.trod enc Tryz.prog w base spare held fuel 39 cs = some x) : ∃ r k, cs = [.int .i64 r, .int .i64 k] := by
 obtain ⟨xs, m, _, rfl, hl, hlen, hf⟩ := DataW.trod_struct Tryz.underlying39 h
 rw [cells_At] at hl
 match cs, hl with
 | [c0, c1], _ =>
  match xs, hlen with
  | [y0, y1], _ =>
   have h0 := hf 0 _ rfl
   have h1 := hf 1 _ rfl
   simp only [cells_int, List.drop, List.take, List.getElem?_cons_zero, List.getElem?_cons_succ] at h0 h1
   obtain ⟨r, e0, _, _⟩ := DataW.trod_int Tryz.underlying3 h0
   obtain ⟨k, e1, _, _⟩ := DataW.trod_int Tryz.underlying3 h1
   cases e0; cases e1
   exact ⟨r, k, rfl⟩
theorem trod_Cell {fuel : Nat} {cs : List Value} {x : DataW H × List MemPlace} (h : DataW.trod enc Tryz.prog w base spare held fuel 41 cs = some x) : ∃ r k p q, cs = [.int .i64 r, .int .i64 k, .bool p, .bool q] := by
 obtain ⟨xs, m, _, rfl, hl, hlen, hf⟩ := DataW.trod_struct Tryz.underlying41 h
 rw [cells_Cell] at hl
 match cs, hl with
 | [c0, c1, c2, c3], _ =>
  match xs, hlen with
  | [y0, y1, y2], _ =>
   have h0 := hf 0 _ rfl
   have h1 := hf 1 _ rfl
   have h2 := hf 2 _ rfl
   simp only [cells_At, cells_bool, List.drop, List.take, List.getElem?_cons_zero, List.getElem?_cons_succ] at h0 h1 h2
   obtain ⟨r, k, e0⟩ := trod_At h0
   obtain ⟨p, e1, _⟩ := DataW.trod_bool Tryz.underlying4 h1
   obtain ⟨q, e2, _⟩ := DataW.trod_bool Tryz.underlying4 h2
   cases e0; cases e1; cases e2
   exact ⟨r, k, p, q, rfl⟩
theorem trod_Kids {t : Nat → Prop} {fuel : Nat} {cs : List Value} {x : DataW H × List MemPlace} (ih : ∀ m, m < fuel → ∀ cs x, DataW.trod enc Tryz.prog w base spare held m 44 cs = some x → ∃ n A c, cs = (nodeA n A c).toList ∧ KidsC w A c n.f5)
  (h : DataW.trod enc Tryz.prog w base spare held fuel 42 cs = some x) : ∃ (l : List Nd) (A : Option Addr) (c : Nat), cs = [.slice A l.length c] ∧ KidsC w A c l := by
 rcases DataW.trod_slice Tryz.underlying42 h with ⟨rfl, rfl⟩ | ⟨a, len, cap, elems, rest, m, hm, rfl, rfl, hb, hl, hc, hlen, hel, hsp, hns⟩
 ·exact ⟨[], none, 0, rfl, Nat.le_refl _, And.intro rfl (And.intro (Nat.zero_le _) (fun h => absurd h (Nat.lt_irrefl _)))⟩
 ·have key : ∀ i : Nat, ∃ n : Nd, i < len → ∃ c' : List Value, c'.length = 16 ∧ k44.K w n c' ∧ ∀ j u, c'[j]? = some u → w.cell? (a.add (i * 16 + j)) = some u := by
   intro i
   by_cases hi : i < len
   ·have hx := hel i hi
    rw [cells_Node, List.getElem?_eq_getElem (by omega)] at hx
    obtain ⟨cs', h1, h2⟩ := Option.bind_eq_some_iff.1 hx
    obtain ⟨n, A, c, rfl, hK⟩ := ih m (by omega) cs' _ h2
    obtain ⟨_, hL, hcell⟩ := World.cells?_some h1
    refine ⟨n, fun _ => ⟨_, rfl, k44_mk w n hK.1 hK.2, fun j u hu => ?_⟩⟩
    have hj : j < 16 := by
     rcases Nat.lt_or_ge j 16 with q | q
     ·exact q
     ·rw [List.getElem?_eq_none q] at hu; cases hu
    rw [← add_add, hcell j hj]
    exact hu
   ·exact ⟨z44, fun q => absurd q hi⟩
  have hlL : ((List.range len).map fun i => Classical.choose (key i)).length = len := by simp
  refine ⟨(List.range len).map fun i => Classical.choose (key i), some a, cap, by rw [hlL], by rw [hlL]; exact hl, ?_⟩
  refine And.intro rfl (And.intro (by rw [hlL]; rw [maxLen_eq] at hc; omega) (fun _ => ⟨a, rfl, fun j p hp => ?_⟩))
  have hj : j < len := by
   rcases Nat.lt_or_ge j len with q | q
   ·exact q
   ·rw [List.getElem?_eq_none (by rw [hlL]; exact q)] at hp; cases hp
  have e : Classical.choose (key j) = p := by
   rw [List.getElem?_map, List.getElem?_range hj] at hp
   exact Option.some.inj hp
  rw [← e]
  exact Classical.choose_spec (key j) hj
theorem trod_Node : ∀ (fuel : Nat) (cs : List Value) (x : DataW H × List MemPlace), DataW.trod enc Tryz.prog w base spare held fuel 44 cs = some x → ∃ (n : Nd) (A : Option Addr) (c : Nat), cs = (nodeA n A c).toList ∧ KidsC w A c n.f5 := by
 intro fuel
 induction fuel using Nat.strongRecOn with
 | _ fuel ih =>
  intro cs x h
  obtain ⟨xs, m, hm, rfl, hl, hlen, hf⟩ := DataW.trod_struct Tryz.underlying44 h
  rw [cells_Node] at hl
  match cs, hl with
  | [c0, c1, c2, c3, c4, c5, c6, c7, c8, c9, c10, c11, c12, c13, c14, c15], _ =>
   match xs, hlen with
   | [y0, y1, y2, y3, y4, y5], _ =>
    have h0 := hf 0 _ rfl
    have h1 := hf 1 _ rfl
    have h2 := hf 2 _ rfl
    have h3 := hf 3 _ rfl
    have h4 := hf 4 _ rfl
    have h5 := hf 5 _ rfl
    simp only [cells_NodeKind, cells_Value, cells_Cell, cells_string, cells_Kids, List.drop, List.take, List.getElem?_cons_zero, List.getElem?_cons_succ] at h0 h1 h2 h3 h4 h5
    obtain ⟨a, e0, _, _⟩ := DataW.trod_int Tryz.underlying33 h0
    obtain ⟨K, n, s, b, c, e1, _, _, _, _, _⟩ := trod_Value h1
    obtain ⟨r, k, p, q, e2⟩ := trod_Cell h2
    obtain ⟨r', k', p', q', e3⟩ := trod_Cell h3
    obtain ⟨u, e4, _, _⟩ := DataW.trod_string Tryz.underlying9 h4
    obtain ⟨l, A, cc, e5, hK⟩ := trod_Kids (t := fun _ => True) (fun m' hm' => ih m' (by omega)) h5
    cases e0; cases e1; cases e2; cases e3; cases e4; cases e5
    exact ⟨⟨a, ⟨K, n, s, b, c⟩, ⟨⟨r, k⟩, p, q⟩, ⟨⟨r', k'⟩, p', q'⟩, u, l⟩, A, cc, rfl, hK⟩
theorem open_Node {r : Reach} {b0 : Nat} {v : Value} {d : DataW H} {p : List MemPlace} (hv : Value.okWide Tryz.prog w r b0 44 v) (h : DataW.Trod enc Tryz.prog w base spare held 44 v d p) :
  ∃ (n : Nd) (A : Option Addr) (c : Nat), v = nodeV n A c ∧ KidsC w A c n.f5 := by
 obtain ⟨cs, rfl, hsz⟩ := okWide_struct Tryz.underlying44 hv
 obtain ⟨fuel, hf⟩ := h
 obtain ⟨n, A, c, hc, hK⟩ := trod_Node fuel _ _ hf
 refine ⟨n, A, c, ?_, hK⟩
 have : cs.toList = (nodeA n A c).toList := by simpa [Value.cells] using hc
 rw [Array.toList_inj.mp this]
end
end Go.Proofs.YtopdjokncbpghaaGreatDoor.Args
end
