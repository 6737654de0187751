/-
  Lemmas for the law FAllFTable.
-/
import Derived.Test.YtopdjokncbpghaaGreatDoorSFAllFTable5
import Derived.Below
import Derived.BigRegion
import Derived.LoopTactic
import Derived.RegionTactic
import Derived.WalkKit
import Derived.Deep.RegionHeld3
set_option maxHeartbeats 8000000
set_option maxRecDepth 100000
set_option linter.unusedVariables false
set_option linter.unusedSimpArgs false
section
namespace Go.Proofs.YtopdjokncbpghaaGreatDoor.Pr
open Go.RowKit Go.Proofs.YtopdjokncbpghaaGreatDoorW.PrintWords Go.Proofs.YtopdjokncbpghaaGreatDoorW.PrintLast Go.Proofs.YtopdjokncbpghaaGreatDoorW.PrintMore
theorem ret_i {a b : Int} (h : a = b) : Ending.returned (.int .i64 a) = .returned (.int .i64 b) := by rw [h]
theorem ret_b {a b : Bool} (h : a = b) : Ending.returned (.bool a) = .returned (.bool b) := by rw [h]
abbrev Nd := S44
abbrev nodeA (n : Nd) (A : Option Addr) (c : Nat) : Array Value := #[.int .i64 n.f0, .int .i64 n.f1.f0, .int .i64 n.f1.f1, .string n.f1.f2, .bool n.f1.f3, .int .i64 n.f1.f4, .int .i64 n.f2.f0.f0, .int .i64 n.f2.f0.f1, .bool n.f2.f1, .bool n.f2.f2, .int .i64 n.f3.f0.f0, .int .i64 n.f3.f0.f1, .bool n.f3.f1, .bool n.f3.f2, .string n.f4, .slice A n.f5.length c]
abbrev nodeV (n : Nd) (A : Option Addr) (c : Nat) : Value := .agg (nodeA n A c)
abbrev KidsC (w : World) (A : Option Addr) (c : Nat) (l : List Nd) : Prop := l.length ≤ c ∧ Kd.C k44 w A l.length l
theorem KidsC.below {w w1 : World} {A : Option Addr} {c : Nat} {l : List Nd} (h : KidsC w A c l) (hb : Below w.heap.size w w1) : KidsC w1 A c l := ⟨h.1, Kd.C_below h.2 hb⟩
noncomputable def szN (n : Nd) : Nat := SizeOf.sizeOf n
theorem kid_lt {n : Nd} {x : Nd} (h : x ∈ n.f5) : szN x < szN n := by
 have h2 := List.sizeOf_lt_of_mem h
 obtain ⟨a, b, c, e, f, l⟩ := n
 unfold szN
 rw [S44.mk.sizeOf_spec]
 have h4 : SizeOf.sizeOf x < SizeOf.sizeOf l := h2
 omega
theorem rd_kid {l : List Nd} {k : Nat} (h : k < l.length) : rd_T44 l (k : Int) = l[k] := by
 unfold rd_T44
 rw [Int.toNat_natCast, List.getD_eq_getElem?_getD, List.getElem?_eq_getElem h]
 rfl
theorem at_kid {w : World} {A : Option Addr} {l : List Nd} (h : Kd.C k44 w A l.length l) (k : Nat) (hk : k < l.length) : ∃ (ad : Addr) (A' : Option Addr) (c' : Nat), A = some ad ∧ KidsC w A' c' (l[k]).f5 ∧
  w.cell? (ad.add (k * 16)) = some (.int .i64 (l[k]).f0) ∧ w.cell? ⟨(ad.add (k * 16)).block, (ad.add (k * 16)).off + 1, none⟩ = some (.int .i64 (l[k]).f1.f0) ∧ w.cell? ⟨(ad.add (k * 16)).block, (ad.add (k * 16)).off + 2, none⟩ = some (.int .i64 (l[k]).f1.f1) ∧ w.cell? ⟨(ad.add (k * 16)).block, (ad.add (k * 16)).off + 3, none⟩ = some (.string (l[k]).f1.f2) ∧ w.cell? ⟨(ad.add (k * 16)).block, (ad.add (k * 16)).off + 4, none⟩ = some (.bool (l[k]).f1.f3) ∧ w.cell? ⟨(ad.add (k * 16)).block, (ad.add (k * 16)).off + 5, none⟩ = some (.int .i64 (l[k]).f1.f4) ∧
  w.cell? ⟨(ad.add (k * 16)).block, (ad.add (k * 16)).off + 6, none⟩ = some (.int .i64 (l[k]).f2.f0.f0) ∧ w.cell? ⟨(ad.add (k * 16)).block, (ad.add (k * 16)).off + 7, none⟩ = some (.int .i64 (l[k]).f2.f0.f1) ∧ w.cell? ⟨(ad.add (k * 16)).block, (ad.add (k * 16)).off + 8, none⟩ = some (.bool (l[k]).f2.f1) ∧ w.cell? ⟨(ad.add (k * 16)).block, (ad.add (k * 16)).off + 9, none⟩ = some (.bool (l[k]).f2.f2) ∧
  w.cell? ⟨(ad.add (k * 16)).block, (ad.add (k * 16)).off + 10, none⟩ = some (.int .i64 (l[k]).f3.f0.f0) ∧ w.cell? ⟨(ad.add (k * 16)).block, (ad.add (k * 16)).off + 11, none⟩ = some (.int .i64 (l[k]).f3.f0.f1) ∧ w.cell? ⟨(ad.add (k * 16)).block, (ad.add (k * 16)).off + 12, none⟩ = some (.bool (l[k]).f3.f1) ∧ w.cell? ⟨(ad.add (k * 16)).block, (ad.add (k * 16)).off + 13, none⟩ = some (.bool (l[k]).f3.f2) ∧
  w.cell? ⟨(ad.add (k * 16)).block, (ad.add (k * 16)).off + 14, none⟩ = some (.string (l[k]).f4) ∧ w.cell? ⟨(ad.add (k * 16)).block, (ad.add (k * 16)).off + 15, none⟩ = some (.slice A' (l[k]).f5.length c') := by
 obtain ⟨ad, A', c', rfl, h0, h1, h2, h3, h4, h5, h6, h7, h8, h9, h10, h11, h12, h13, h14, h15, hl, hC⟩ := at_T44 h (k : Int) (by omega) (by omega)
 rw [rd_kid hk] at h0 h1 h2 h3 h4 h5 h6 h7 h8 h9 h10 h11 h12 h13 h14 h15 hl hC
 simp only [Int.toNat_natCast] at h0 h1 h2 h3 h4 h5 h6 h7 h8 h9 h10 h11 h12 h13 h14 h15
 exact ⟨ad, A', c', rfl, ⟨hl, hC⟩, h0, h1, h2, h3, h4, h5, h6, h7, h8, h9, h10, h11, h12, h13, h14, h15⟩
mutual
/-- how many nodes there are, at most most and one. -/
def nodesS : Nd → Int → Int
 | ⟨_, _, _, _, _, l⟩, most => nodesL l most 1
def nodesL : List Nd → Int → Int → Int
 | [], _, all => all
 | x :: r, most, all => if all ≤ most then nodesL r most (all + nodesS x (most - all)) else all
end
theorem nodesS_eq (n : Nd) (most : Int) : nodesS n most = nodesL n.f5 most 1 := by cases n; rw [nodesS]
mutual
theorem nodesS_bd : ∀ (n : Nd) (m : Int), 0 ≤ m → 1 ≤ nodesS n m ∧ nodesS n m ≤ m + 1
 | ⟨_, _, _, _, _, l⟩, m, h => by
  rw [nodesS]
  exact nodesL_bd l m 1 h (by omega) (by omega)
theorem nodesL_bd : ∀ (l : List Nd) (m all : Int), 0 ≤ m → 1 ≤ all → all ≤ m + 1 → 1 ≤ nodesL l m all ∧ nodesL l m all ≤ m + 1
 | [], m, all, h, h1, h2 => by rw [nodesL]; exact ⟨h1, h2⟩
 | x :: r, m, all, h, h1, h2 => by
  rw [nodesL]
  split
  ·have := nodesS_bd x (m - all) (by omega)
   exact nodesL_bd r m _ h (by omega) (by omega)
  ·exact ⟨h1, h2⟩
end
theorem nodes_calls (d : Nat) : ∀ (n : Nd) (A : Option Addr) (c : Nat) (m : Int) (w : World) (hd : szN n < d) (hK : KidsC w A c n.f5) (h0 : 0 ≤ m) (h1 : m ≤ 1000000),
  Calls Tryz.prog 71 #[nodeV n A c, .int .i64 m] w fun e w' => e = .returned (.int .i64 (nodesS n m)) ∧ Below w.heap.size w w' := by
 induction d with
 | zero => intro n A c m w hd; omega
 | succ d ih =>
  intro n A c m w hd hK h0 h1
  obtain ⟨hlc, hC⟩ := hK
  have hmax := hC.2.1
  have HC := Aside0.mk hC
  clear hC
  have HI := Aside0.mk ih
  clear ih
  have HD := Aside0.mk hd
  clear hd
  have HR := Aside0.mk (nodesS_eq n m)
  generalize nodesS n m = r at HR ⊢
  go_enter Tryz.func71, Tryz.ntmps71
  go_wp2
  go_loopw [5, 6] (fun all i wr => ∃ (k : Nat) (x : Int), k ≤ n.f5.length ∧ i = .int .i64 k ∧ all = .int .i64 x ∧ 1 ≤ x ∧ x ≤ m + 1 ∧ Aside0 (r = nodesL (n.f5.drop k) m x) ∧ Aside0 (Below w.heap.size w wr) ∧ Aside0 (wr.heap[w.heap.size]? = some (.cells (nodeA n A c) 44 (0, 0)))) (fun _ i _ => n.f5.length - (intOf i).toNat)
  case atStart => exact ⟨0, 1, by omega, rfl, rfl, by omega, by omega, HR, ⟨below_alloc (Below.refl _ _) _⟩, ⟨by show (w.heap.push _)[w.heap.size]? = _; simp⟩⟩
  case round =>
   obtain ⟨k, x, hk, rfl, rfl, hx1, hx2, HX, HB, HBk⟩ := hrel
   have hc15 : wr.cell? ⟨w.heap.size, 15, none⟩ = some (.slice A n.f5.length c) := (blk_cell HBk.out 15).trans rfl
   by_cases hkl : k < n.f5.length
   ·by_cases hxm : x ≤ m
    ·obtain ⟨ad, A', c', e, hK', g0, g1, g2, g3, g4, g5, g6, g7, g8, g9, g10, g11, g12, g13, g14, g15⟩ := at_kid (Kd.C_below HC.out HB.out) k hkl
     subst e
     have HK' := Aside0.mk hK'
     clear hK'
     have hmem : n.f5[k] ∈ n.f5 := List.getElem_mem _
     have HN := Aside0.mk (show nodesL (n.f5.drop k) m x = nodesL (n.f5.drop (k + 1)) m (x + nodesS n.f5[k] (m - x)) by rw [List.drop_eq_getElem_cons hkl, nodesL, if_pos hxm])
     have hbd := nodesS_bd n.f5[k] (m - x) (by omega)
     have HM := Aside0.mk hmem
     clear hmem
     go_wp2_with (go_at_call 71; (with_reducible refine (HI.out n.f5[k] A' c' (m - x) wr (by have := kid_lt HM.out; have := HD.out; omega) HK'.out (by omega) (by omega)).mono ?_); rintro e w1 ⟨rfl, hb⟩; have HB1 := Aside0.mk hb; clear hb)
     refine ⟨⟨k + 1, x + nodesS n.f5[k] (m - x), by omega, by go_num, rfl, by omega, by omega, ⟨HX.out.trans HN.out⟩, ⟨below_step HB.out HB1.out⟩, ⟨blk_below HBk.out HB1.out⟩⟩, ?_⟩
     simp [intOf]; omega
    ·have HN := Aside0.mk (show nodesL (n.f5.drop k) m x = x by rw [List.drop_eq_getElem_cons hkl, nodesL, if_neg hxm])
     obtain rfl : x = m + 1 := by omega
     clear hxm
     go_wp2
     go_ret
     exact ⟨ret_i (HX.out.trans HN.out).symm, HB.out⟩
   ·have HN := Aside0.mk (show nodesL (n.f5.drop k) m x = x by rw [List.drop_of_length_le (by omega), nodesL])
    go_wp2
    go_ret
    exact ⟨ret_i (HX.out.trans HN.out).symm, HB.out⟩
mutual
/-- how deep a formula is, at most deep and one. -/
def levelsS : Nd → Int → Int
 | ⟨_, _, _, _, _, l⟩, deep => if deep ≤ 0 then 1 else 1 + levelsL l deep 0
def levelsL : List Nd → Int → Int → Int
 | [], _, u => u
 | x :: r, deep, u => if u < deep then levelsL r deep (if u < levelsS x (deep - 1) then levelsS x (deep - 1) else u) else u
end
theorem levelsS_eq (n : Nd) (deep : Int) : levelsS n deep = if deep ≤ 0 then 1 else 1 + levelsL n.f5 deep 0 := by cases n; rw [levelsS]
mutual
theorem levelsS_bd : ∀ (n : Nd) (m : Int), 0 ≤ m → 1 ≤ levelsS n m ∧ levelsS n m ≤ m + 1
 | ⟨_, _, _, _, _, l⟩, m, h => by
  rw [levelsS]
  split
  ·omega
  ·have := levelsL_bd l m 0 (by omega) (by omega) (by omega)
   omega
theorem levelsL_bd : ∀ (l : List Nd) (m u : Int), 0 < m → 0 ≤ u → u ≤ m → 0 ≤ levelsL l m u ∧ levelsL l m u ≤ m
 | [], m, u, h, h1, h2 => by rw [levelsL]; exact ⟨h1, h2⟩
 | x :: r, m, u, h, h1, h2 => by
  rw [levelsL]
  split
  ·have := levelsS_bd x (m - 1) (by omega)
   exact levelsL_bd r m _ h (by split <;> omega) (by split <;> omega)
  ·exact ⟨h1, h2⟩
end
theorem levels_calls (d : Nat) : ∀ (n : Nd) (A : Option Addr) (c : Nat) (m : Int) (w : World) (hd : szN n < d) (hK : KidsC w A c n.f5) (h0 : 0 ≤ m) (h1 : m ≤ 1000000),
  Calls Tryz.prog 72 #[nodeV n A c, .int .i64 m] w fun e w' => e = .returned (.int .i64 (levelsS n m)) ∧ Below w.heap.size w w' := by
 induction d with
 | zero => intro n A c m w hd; omega
 | succ d ih =>
  intro n A c m w hd hK h0 h1
  obtain ⟨hlc, hC⟩ := hK
  have hmax := hC.2.1
  have HC := Aside0.mk hC
  clear hC
  have HI := Aside0.mk ih
  clear ih
  have HD := Aside0.mk hd
  clear hd
  by_cases hm : m ≤ 0
  ·have HR := Aside0.mk (show levelsS n m = 1 by rw [levelsS_eq, if_pos hm])
   have hmd : decide (m ≤ 0) = true := decide_eq_true hm
   generalize levelsS n m = r at HR ⊢
   go_enter Tryz.func72, Tryz.ntmps72
   go_wp2
   go_ret
   exact ⟨ret_i HR.out.symm, below_alloc (Below.refl _ _) _⟩
  have HR := Aside0.mk (show levelsS n m = 1 + levelsL n.f5 m 0 by rw [levelsS_eq, if_neg hm])
  have hmd : 0 < m := by omega
  clear hm
  generalize levelsS n m = r at HR ⊢
  go_enter Tryz.func72, Tryz.ntmps72
  go_wp2
  go_loopw [5, 6] (fun u i wr => ∃ (k : Nat) (x : Int), k ≤ n.f5.length ∧ i = .int .i64 k ∧ u = .int .i64 x ∧ 0 ≤ x ∧ x ≤ m ∧ Aside0 (r = 1 + levelsL (n.f5.drop k) m x) ∧ Aside0 (Below w.heap.size w wr) ∧ Aside0 (wr.heap[w.heap.size]? = some (.cells (nodeA n A c) 44 (0, 0)))) (fun _ i _ => n.f5.length - (intOf i).toNat)
  case atStart => exact ⟨0, 0, by omega, rfl, rfl, by omega, by omega, HR, ⟨below_alloc (Below.refl _ _) _⟩, ⟨by show (w.heap.push _)[w.heap.size]? = _; simp⟩⟩
  case round =>
   obtain ⟨k, x, hk, rfl, rfl, hx1, hx2, HX, HB, HBk⟩ := hrel
   have hc15 : wr.cell? ⟨w.heap.size, 15, none⟩ = some (.slice A n.f5.length c) := (blk_cell HBk.out 15).trans rfl
   by_cases hkl : k < n.f5.length
   ·by_cases hxm : x < m
    ·obtain ⟨ad, A', c', e, hK', g0, g1, g2, g3, g4, g5, g6, g7, g8, g9, g10, g11, g12, g13, g14, g15⟩ := at_kid (Kd.C_below HC.out HB.out) k hkl
     subst e
     have HK' := Aside0.mk hK'
     clear hK'
     have HN := Aside0.mk (show levelsL (n.f5.drop k) m x = levelsL (n.f5.drop (k + 1)) m (if x < levelsS n.f5[k] (m - 1) then levelsS n.f5[k] (m - 1) else x) by rw [List.drop_eq_getElem_cons hkl, levelsL, if_pos hxm])
     have hbd := levelsS_bd n.f5[k] (m - 1) (by omega)
     have HM := Aside0.mk (List.getElem_mem hkl)
     generalize hq : levelsS n.f5[k] (m - 1) = q at HN hbd
     have HQ := Aside0.mk hq
     clear hq
     by_cases hxq : x < q
     all_goals
      go_wp2_with (go_at_call 72; (with_reducible refine (HI.out n.f5[k] A' c' (m - 1) wr (by have := kid_lt HM.out; have := HD.out; omega) HK'.out (by omega) (by omega)).mono ?_); rintro e w1 ⟨e1, hb⟩; rw [HQ.out] at e1; subst e1; have HB1 := Aside0.mk hb; clear hb)
     ·refine ⟨⟨k + 1, q, by omega, by go_num, by simp [hxq], by omega, by omega, ⟨by rw [HX.out, HN.out, if_pos (by omega)]⟩, ⟨below_step HB.out HB1.out⟩, ⟨blk_below HBk.out HB1.out⟩⟩, ?_⟩
      simp [intOf]; omega
     ·refine ⟨⟨k + 1, x, by omega, by go_num, by simp [hxq], by omega, by omega, ⟨by rw [HX.out, HN.out, if_neg (by omega)]⟩, ⟨below_step HB.out HB1.out⟩, ⟨blk_below HBk.out HB1.out⟩⟩, ?_⟩
      simp [intOf]; omega
    ·have HN := Aside0.mk (show levelsL (n.f5.drop k) m x = x by rw [List.drop_eq_getElem_cons hkl, levelsL, if_neg hxm])
     have hxd : decide (x < m) = false := decide_eq_false hxm
     clear hxm
     go_wp2
     go_ret
     exact ⟨ret_i (by rw [HX.out, HN.out]), HB.out⟩
   ·have HN := Aside0.mk (show levelsL (n.f5.drop k) m x = x by rw [List.drop_of_length_le (by omega), levelsL])
    go_wp2
    go_ret
    exact ⟨ret_i (by rw [HX.out, HN.out]), HB.out⟩
end Go.Proofs.YtopdjokncbpghaaGreatDoor.Pr
end
section
namespace Go.Proofs.YtopdjokncbpghaaGreatDoor.Pr
open Go.RowKit Go.Proofs.YtopdjokncbpghaaGreatDoorW.PrintWords Go.Proofs.YtopdjokncbpghaaGreatDoorW.PrintLast Go.Proofs.YtopdjokncbpghaaGreatDoorW.PrintMore
attribute [local go_sem high] eqA37 eqA41
def plainB (n : Nd) : Bool :=
 (n.f0 == 1 || n.f1.f0 == 0 && (n.f1.f1 == 0 && (n.f1.f2.toList == ([] : List UInt8) && (!n.f1.f3 && (n.f1.f4 == 0))))) &&
 (n.f0 == 2 || n.f0 == 3 || ((n.f2.f0.f0 == 0 && (n.f2.f0.f1 == 0)) && (!n.f2.f1 && (!n.f2.f2)))) &&
 (n.f0 == 3 || ((n.f3.f0.f0 == 0 && (n.f3.f0.f1 == 0)) && (!n.f3.f1 && (!n.f3.f2)))) &&
 (n.f0 == 5 || n.f0 == 6 || n.f4.toList == ([] : List UInt8))
end Go.Proofs.YtopdjokncbpghaaGreatDoor.Pr
end
section
namespace Go.Proofs.YtopdjokncbpghaaGreatDoor.Pr
open Go.RowKit Go.Proofs.YtopdjokncbpghaaGreatDoorW.PrintWords Go.Proofs.YtopdjokncbpghaaGreatDoorW.PrintLast Go.Proofs.YtopdjokncbpghaaGreatDoorW.PrintMore
theorem count_calls (n : Nd) (A : Option Addr) (c : Nat) (m d : Int) (w : World) (hK : KidsC w A c n.f5) (h0 : 0 ≤ m) (h1 : m ≤ 1000000) (d0 : 0 ≤ d) (d1 : d ≤ 1000000) :
  Calls Tryz.prog 52 #[nodeV n A c, .int .i64 m, .int .i64 d] w fun e w' => e = .returned (.tuple #[.int .i64 (nodesS n m), .int .i64 (levelsS n d)]) ∧ Below w.heap.size w w' := by
 have HK := Aside0.mk hK
 clear hK
 have cN := Aside0.mk fun (W : World) (h : Below w.heap.size w W) => nodes_calls (szN n + 1) n A c m W (Nat.lt_succ_self _) (HK.out.below h) h0 h1
 have cL := Aside0.mk fun (W : World) (h : Below w.heap.size w W) => levels_calls (szN n + 1) n A c d W (Nat.lt_succ_self _) (HK.out.below h) d0 d1
 go_enter Tryz.func52, Tryz.ntmps52
 go_wp2
 have HB0 := Aside0.mk (below_alloc (Below.refl w.heap.size w) (.cells (nodeA n A c) 44))
 have HBk := Aside0.mk (show (w.alloc (.cells (nodeA n A c) 44)).heap[w.heap.size]? = some (.cells (nodeA n A c) 44 (0, 0)) by show (w.heap.push _)[w.heap.size]? = _; simp)
 generalize w.alloc (.cells (nodeA n A c) 44) = w0 at HB0 HBk ⊢
 have HBd := Aside0.mk (blk_drew HBk.out)
 have HB0d := Aside0.mk (below_drew1 HB0.out)
 go_region_held3 (fun w' => w'.cell? ⟨w.heap.size, 0, none⟩ = some (.int .i64 n.f0) ∧ w'.cell? ⟨w.heap.size, 1, none⟩ = some (.int .i64 n.f1.f0) ∧ w'.cell? ⟨w.heap.size, 2, none⟩ = some (.int .i64 n.f1.f1) ∧ w'.cell? ⟨w.heap.size, 3, none⟩ = some (.string n.f1.f2) ∧ w'.cell? ⟨w.heap.size, 4, none⟩ = some (.bool n.f1.f3) ∧ w'.cell? ⟨w.heap.size, 5, none⟩ = some (.int .i64 n.f1.f4) ∧ w'.cell? ⟨w.heap.size, 6, none⟩ = some (.int .i64 n.f2.f0.f0) ∧ w'.cell? ⟨w.heap.size, 7, none⟩ = some (.int .i64 n.f2.f0.f1) ∧ w'.cell? ⟨w.heap.size, 8, none⟩ = some (.bool n.f2.f1) ∧ w'.cell? ⟨w.heap.size, 9, none⟩ = some (.bool n.f2.f2) ∧ w'.cell? ⟨w.heap.size, 10, none⟩ = some (.int .i64 n.f3.f0.f0) ∧ w'.cell? ⟨w.heap.size, 11, none⟩ = some (.int .i64 n.f3.f0.f1) ∧ w'.cell? ⟨w.heap.size, 12, none⟩ = some (.bool n.f3.f1) ∧ w'.cell? ⟨w.heap.size, 13, none⟩ = some (.bool n.f3.f2) ∧ w'.cell? ⟨w.heap.size, 14, none⟩ = some (.string n.f4) ∧ w'.cell? ⟨w.heap.size, 15, none⟩ = some (.slice A n.f5.length c)) (first | exact ⟨(blk_cell HBk.out 0).trans rfl, (blk_cell HBk.out 1).trans rfl, (blk_cell HBk.out 2).trans rfl, (blk_cell HBk.out 3).trans rfl, (blk_cell HBk.out 4).trans rfl, (blk_cell HBk.out 5).trans rfl, (blk_cell HBk.out 6).trans rfl, (blk_cell HBk.out 7).trans rfl, (blk_cell HBk.out 8).trans rfl, (blk_cell HBk.out 9).trans rfl, (blk_cell HBk.out 10).trans rfl, (blk_cell HBk.out 11).trans rfl, (blk_cell HBk.out 12).trans rfl, (blk_cell HBk.out 13).trans rfl, (blk_cell HBk.out 14).trans rfl, (blk_cell HBk.out 15).trans rfl⟩ | exact ⟨(blk_cell (blk_below HBd.out HB1.out) 0).trans rfl, (blk_cell (blk_below HBd.out HB1.out) 1).trans rfl, (blk_cell (blk_below HBd.out HB1.out) 2).trans rfl, (blk_cell (blk_below HBd.out HB1.out) 3).trans rfl, (blk_cell (blk_below HBd.out HB1.out) 4).trans rfl, (blk_cell (blk_below HBd.out HB1.out) 5).trans rfl, (blk_cell (blk_below HBd.out HB1.out) 6).trans rfl, (blk_cell (blk_below HBd.out HB1.out) 7).trans rfl, (blk_cell (blk_below HBd.out HB1.out) 8).trans rfl, (blk_cell (blk_below HBd.out HB1.out) 9).trans rfl, (blk_cell (blk_below HBd.out HB1.out) 10).trans rfl, (blk_cell (blk_below HBd.out HB1.out) 11).trans rfl, (blk_cell (blk_below HBd.out HB1.out) 12).trans rfl, (blk_cell (blk_below HBd.out HB1.out) 13).trans rfl, (blk_cell (blk_below HBd.out HB1.out) 14).trans rfl, (blk_cell (blk_below HBd.out HB1.out) 15).trans rfl⟩ | exact ⟨(blk_cell (blk_below (blk_below HBd.out HB1.out) HB2.out) 0).trans rfl, (blk_cell (blk_below (blk_below HBd.out HB1.out) HB2.out) 1).trans rfl, (blk_cell (blk_below (blk_below HBd.out HB1.out) HB2.out) 2).trans rfl, (blk_cell (blk_below (blk_below HBd.out HB1.out) HB2.out) 3).trans rfl, (blk_cell (blk_below (blk_below HBd.out HB1.out) HB2.out) 4).trans rfl, (blk_cell (blk_below (blk_below HBd.out HB1.out) HB2.out) 5).trans rfl, (blk_cell (blk_below (blk_below HBd.out HB1.out) HB2.out) 6).trans rfl, (blk_cell (blk_below (blk_below HBd.out HB1.out) HB2.out) 7).trans rfl, (blk_cell (blk_below (blk_below HBd.out HB1.out) HB2.out) 8).trans rfl, (blk_cell (blk_below (blk_below HBd.out HB1.out) HB2.out) 9).trans rfl, (blk_cell (blk_below (blk_below HBd.out HB1.out) HB2.out) 10).trans rfl, (blk_cell (blk_below (blk_below HBd.out HB1.out) HB2.out) 11).trans rfl, (blk_cell (blk_below (blk_below HBd.out HB1.out) HB2.out) 12).trans rfl, (blk_cell (blk_below (blk_below HBd.out HB1.out) HB2.out) 13).trans rfl, (blk_cell (blk_below (blk_below HBd.out HB1.out) HB2.out) 14).trans rfl, (blk_cell (blk_below (blk_below HBd.out HB1.out) HB2.out) 15).trans rfl⟩)
  (first
  | (go_at_call 71; refine (cN.out _ (below_drew1 HB0.out)).mono ?_; rintro e w1 ⟨rfl, hb1⟩; have HB1 := Aside0.mk hb1; clear hb1)
  | (go_at_call 72; refine (cL.out _ (below_step HB0d.out HB1.out)).mono ?_; rintro e w2 ⟨rfl, hb2⟩; have HB2 := Aside0.mk hb2; clear hb2))
 go_wp2
 go_ret2
 exact ⟨rfl, below_step (below_step HB0d.out HB1.out) HB2.out⟩
end Go.Proofs.YtopdjokncbpghaaGreatDoor.Pr
end
