/-
  Lemmas for the law FAllFTable.
-/
import Derived.Test.YtopdjokncbpghaaGreatDoorSFAllFTable40
import Derived.Shelf.SlSortCmp.InsertionK
set_option maxHeartbeats 8000000
set_option maxRecDepth 100000
set_option linter.unusedVariables false
set_option linter.unusedSimpArgs false
section
namespace Go.Proofs.YtopdjokncbpghaaGreatDoor.Pr
open Go.RowKit Go.Proofs.YtopdjokncbpghaaGreatDoorW.PrintWords Go.Proofs.YtopdjokncbpghaaGreatDoorW.PrintLast Go.Proofs.YtopdjokncbpghaaGreatDoorW.PrintMore Go.Sort
abbrev S_F := S24
structure F9 where
 x : S_F
 p : Option Addr
 c : Nat
instance : Inhabited F9 := ⟨⟨⟨ByteArray.empty, 0, 0, []⟩, none, 0⟩⟩
def encF (y : F9) : List Value := [.string y.x.f0, .int .i64 y.x.f1, .int .i64 y.x.f2, .slice y.p y.x.f3.length y.c]
theorem encF_len (y : F9) : (encF y).length = 4 := rfl
theorem encF_one (y : F9) : ∀ v ∈ encF y, v.oneCell' = true := by
 intro v hv
 unfold encF at hv
 simp only [List.mem_cons, List.not_mem_nil, or_false] at hv
 rcases hv with rfl | rfl | rfl | rfl <;> rfl
theorem flat_take (d : Array F9) (j : Nat) (hj : j < d.size) : ((flatK encF 4 d).toList.drop (j * 4)).take 4 = encF d[j]! := by
 have hs : (flatK encF 4 d).toList.length = d.size * 4 := by rw [Array.length_toList, size_flatK]
 apply List.ext_getElem
 ·rw [List.length_take, List.length_drop, hs, encF_len]; omega
 ·intro i h1 h2
  rw [encF_len] at h2
  have h3 := get_flatK encF 4 d (j * 4 + i) (by omega)
  rw [getElem!_pos _ _ (by rw [size_flatK]; omega), show (j * 4 + i) / 4 = j by omega, show (j * 4 + i) % 4 = i by omega, getElem!_pos (encF d[j]!) i h2] at h3
  rw [List.getElem_take, List.getElem_drop, Array.getElem_toList]
  exact h3
def WantsM (w : World) (base : Nat) (ok : Nat → Prop) (y : F9) : Prop := (Kd.int .i64).R 62 w base ok (.slice y.p y.x.f3.length y.c) y.x.f3
theorem own_form {w : World} {base : Nat} {e : TypeId} {size n : Nat} {v : Value} {xs : List Value} (h : w.ownsRow base e size v n xs) : ∃ p c, v = .slice p n c := by
 rcases h.2 with ⟨rfl, rfl⟩ | ⟨g, cap, cur, rfl, _⟩
 ·exact ⟨_, _, rfl⟩
 ·exact ⟨_, _, rfl⟩
theorem form9_open {w : World} {base : Nat} {ok : Nat → Prop} {x : S_F} {cs : List Value} (h : k24.M w base ok x cs) : ∃ y : F9, y.x = x ∧ cs = encF y ∧ WantsM w base ok y := by
 obtain ⟨v3, rfl, hR⟩ := k24_openM h
 obtain ⟨h0, inner, ho, hr⟩ := hR
 obtain ⟨p, c, rfl⟩ := own_form ho
 exact ⟨⟨x, p, c⟩, rfl, rfl, h0, inner, ho, hr⟩
theorem rows9 {w : World} {base : Nat} {ok : Nat → Prop} {u : Value} {L : List S_F} (h : Kd.R k24 24 w base ok u L) (hne : L ≠ []) :
  ∃ (g cap : Nat) (cur : Array Value) (d : Array F9), u = .slice (some ⟨g, 0, none⟩) d.size cap ∧ d.toList.map F9.x = L ∧ ok g ∧ base ≤ g ∧ w.heap[g]? = some (.cells cur 24 (0, 0)) ∧ d.size ≤ cap ∧ cap ≤ maxLen ∧ cur.size = cap * 4 ∧ HoldsK encF 4 w g 0 d ∧ ∀ y ∈ d.toList, WantsM w base (fun k => ok k ∧ k ≠ g) y := by
 obtain ⟨h0, inner, ho, hr⟩ := h
 have hb0 := own_base ho
 rcases ho.2 with ⟨rfl, hn⟩ | ⟨g, cap, cur, rfl, hg, hh, hle, hmax, hsz, htake⟩
 ·exact absurd (List.length_eq_zero_iff.1 hn) hne
 ·have hex : ∀ j : Fin L.length, ∃ y : F9, y.x = L[j] ∧ (inner.drop (j.1 * 4)).take 4 = encF y ∧ WantsM w base (fun k => ok k ∧ k ≠ g) y := by
   intro j
   obtain ⟨y, e1, e2, e3⟩ := form9_open (hr.2 j.1 L[j] (List.getElem?_eq_getElem j.2))
   refine ⟨y, e1, e2, Kd.R_mono e3 (fun k hk => ⟨hk.1, fun e => hk.2 (by rw [e]; rfl)⟩)⟩
  obtain ⟨F, hF⟩ := Classical.axiomOfChoice hex
  have hds : (Array.ofFn F).size = L.length := Array.size_ofFn
  have hget : ∀ j (hj : j < L.length), (Array.ofFn F)[j]! = F ⟨j, hj⟩ := by
   intro j hj
   rw [getElem!_pos _ _ (by rw [hds]; exact hj), Array.getElem_ofFn]
  refine ⟨g, cap, cur, Array.ofFn F, by rw [hds], ?_, h0 g rfl, hg, hh, by rw [hds]; exact hle, hmax, hsz, ?_, ?_⟩
  ·apply List.ext_getElem
   ·rw [List.length_map, Array.length_toList, hds]
   ·intro i h1 h2
    rw [List.getElem_map, Array.getElem_toList, Array.getElem_ofFn]
    exact (hF ⟨i, h2⟩).1
  ·intro t ht
   rw [size_flatK, hds] at ht
   rw [Nat.zero_add, blk_cell hh, blk_frozen hh]
   refine ⟨?_, rfl⟩
   have ht2 : t < cur.size := by rw [hsz]; exact Nat.lt_of_lt_of_le ht (Nat.mul_le_mul_right _ hle)
   have hlen : inner.length = L.length * 4 := hr.1
   have e1 : cur[t]? = inner[t]? := by
    rw [← htake, List.getElem?_take_of_lt (by exact ht), Array.getElem?_toList]
   have e2 : inner[t]? = ((inner.drop (t / 4 * 4)).take 4)[t % 4]? := by
    rw [List.getElem?_take_of_lt (by omega), List.getElem?_drop]
    congr 1
    omega
   have ht4 : t / 4 < L.length := by omega
   rw [e1, e2, (hF ⟨t / 4, ht4⟩).2.1, get_flatK _ _ _ _ (by rw [hds]; exact ht), hget _ ht4]
   rw [List.getElem?_eq_getElem (by rw [encF_len]; omega), getElem!_pos _ _ (by rw [encF_len]; omega)]
   rfl
  ·intro y hy
   obtain ⟨i, hi, rfl⟩ := List.getElem_of_mem hy
   rw [Array.length_toList, hds] at hi
   rw [Array.getElem_toList, Array.getElem_ofFn]
   exact (hF ⟨i, hi⟩).2.2
theorem rows9_back {w w' : World} {base : Nat} {ok : Nat → Prop} {g cap : Nat} {cur : Array Value} {d d' : Array F9} (hok : ok g) (hg : base ≤ g) (hh : w.heap[g]? = some (.cells cur 24 (0, 0))) (hle : d.size ≤ cap) (hmax : cap ≤ maxLen) (hsz : cur.size = cap * 4) (hM : ∀ y ∈ d.toList, WantsM w base (fun k => ok k ∧ k ≠ g) y)
  (hp : d'.toList.Perm d.toList) (hg' : w'.heap[g]? = some (.cells (putCells id 0 (flatK encF 4 d') cur) 24 (0, 0))) (hk : ∀ k, k < w.heap.size → k ≠ g → w'.heap[k]? = w.heap[k]?) :
  Kd.R k24 24 w' base ok (.slice (some ⟨g, 0, none⟩) d.size cap) (d'.toList.map F9.x) := by
 have hds : d'.size = d.size := by have := hp.length_eq; rwa [Array.length_toList, Array.length_toList] at this
 have hfs : (flatK encF 4 d').size = d.size * 4 := by rw [size_flatK, hds]
 refine ⟨fun k hk => ?_, (flatK encF 4 d').toList, ⟨?_, .inr ⟨g, cap, _, ?_, hg, hg', ?_, hmax, ?_, ?_⟩⟩, ⟨?_, ?_⟩⟩
 ·have : g = k := by simpa [Value.ownBlock] using hk
  rw [← this]; exact hok
 ·rw [Array.length_toList, hfs, List.length_map, Array.length_toList, hds]; rfl
 ·rw [List.length_map, Array.length_toList, hds]
 ·rw [List.length_map, Array.length_toList, hds]; exact hle
 ·unfold putCells; rw [Array.size_mapIdx]; exact hsz
 ·apply List.ext_getElem
  ·rw [List.length_take, List.length_map, Array.length_toList, Array.length_toList, Array.length_toList, hfs, hds]
   unfold putCells
   rw [Array.size_mapIdx, hsz]
   show min (d.size * 4) (cap * 4) = d.size * 4
   omega
  ·intro i h1 h2
   rw [Array.length_toList, hfs] at h2
   rw [List.getElem_take, Array.getElem_toList, Array.getElem_toList]
   unfold putCells
   rw [Array.getElem_mapIdx, if_pos ⟨Nat.zero_le _, by rw [hfs]; omega⟩, Nat.sub_zero, getElem!_pos _ _ (by rw [hfs]; exact h2)]
   rfl
 ·rw [Array.length_toList, hfs, List.length_map, Array.length_toList, hds]; rfl
 ·intro j q hj
  rw [List.getElem?_map, Option.map_eq_some_iff] at hj
  obtain ⟨y, hy, hyq⟩ := hj
  subst hyq
  have hjl : j < d'.size := by have := (List.getElem?_eq_some_iff.1 hy).1; rwa [Array.length_toList] at this
  have hyj : d'[j]! = y := by
   rw [getElem!_pos d' j hjl]
   have := (List.getElem?_eq_some_iff.1 hy).2
   rwa [Array.getElem_toList] at this
  have hm := hM y (hp.mem_iff.1 (List.mem_of_getElem? hy))
  show k24.M w' base _ y.x (((flatK encF 4 d').toList.drop (j * 4)).take 4)
  rw [flat_take d' j hjl, hyj]
  refine k24_mkM _ _ _ _ ?_
  refine Kd.R_mono (Kd.R_step hm (fun k hk1 hk2 => hk k hk2 hk1.2)) (fun k hk1 => ⟨hk1.1, fun e => hk1.2 (by injection e)⟩)
theorem sort_other (w : World) (g m : Nat) (d : Array F9) (os : Array Obj) {k : Nat} (hk : k < w.heap.size) (hne : k ≠ g) : (sortWorldK encF 4 w g 0 m d os).heap[k]? = w.heap[k]? := by
 unfold sortWorldK
 rw [heap_grow_old _ _ (by show k < (putRow id (Sort.ahead w m) g 0 (flatK encF 4 d)).heap.size; rw [size_putRow]; exact hk)]
 show ((Sort.ahead w m).heap.modify g _)[k]? = _
 rw [Array.getElem?_modify, if_neg (fun e => hne e.symm)]; rfl
theorem sort_own (w : World) (g m : Nat) (d : Array F9) (os : Array Obj) {cur : Array Value} {t : Nat} (hh : w.heap[g]? = some (.cells cur t (0, 0))) : (sortWorldK encF 4 w g 0 m d os).heap[g]? = some (.cells (putCells id 0 (flatK encF 4 d) cur) t (0, 0)) := by
 have hk : g < w.heap.size := (Array.getElem?_eq_some_iff.1 hh).1
 unfold sortWorldK
 rw [heap_grow_old _ _ (by show g < (putRow id (Sort.ahead w m) g 0 (flatK encF 4 d)).heap.size; rw [size_putRow]; exact hk)]
 show ((Sort.ahead w m).heap.modify g _)[g]? = _
 rw [Array.getElem?_modify, if_pos rfl]
 show Option.map _ (w.heap[g]?) = _
 rw [hh]; rfl
theorem sort_below (w0 w : World) (g m : Nat) (d : Array F9) (os : Array Obj) (hB : Below w0.heap.size w0 w) (hg : w0.heap.size ≤ g) : Below w0.heap.size w0 (sortWorldK encF 4 w g 0 m d os) := by
 refine ⟨hB.os, hB.tape, hB.output, ?_, fun k hk => ?_⟩
 ·refine Nat.le_trans hB.size ?_
  unfold sortWorldK
  rw [size_grow]
  show w.heap.size ≤ (putRow id (Sort.ahead w m) g 0 (flatK encF 4 d)).heap.size + _
  rw [size_putRow]
  exact Nat.le_add_right _ _
 ·rw [sort_other w g m d os (Nat.lt_of_lt_of_le hk hB.size) (by omega)]
  exact hB.block k hk
end Go.Proofs.YtopdjokncbpghaaGreatDoor.Pr
end
