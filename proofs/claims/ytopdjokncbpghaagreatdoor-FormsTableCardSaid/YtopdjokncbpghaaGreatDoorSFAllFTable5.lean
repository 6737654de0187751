/-
  Lemmas for the law FAllFTable.
-/
import Derived.Test.YtopdjokncbpghaaGreatDoorSFAllFTable0
import Derived.Test.YtopdjokncbpghaaGreatDoorSFAllFTable1
import Derived.Test.YtopdjokncbpghaaGreatDoorSFAllFTable2
import Derived.Test.YtopdjokncbpghaaGreatDoorSFAllFTable3
import Derived.Test.YtopdjokncbpghaaGreatDoorSFAllFTable4
import Derived.ArgAppend
import Derived.Below
import Derived.BigQuiet
import Derived.Deep.AppendLies
import Derived.Deep.CutBlock
import Derived.Deep.DeepCutAuto
import Derived.Deep.Draws
import Derived.Deep.LoopGhost
import Derived.Deep.OwnRows
import Derived.Deep.QuietTactic
import Derived.Deep.RegionHeld3
import Derived.KernelRfl
import Derived.Laws.BitsLemmas
import Derived.Laws.BytesArg
import Derived.Laws.IdiomCopy
import Derived.Laws.MakeOwn
import Derived.Laws.OwnMore
import Derived.Laws.Rows
import Derived.Laws.Slices
import Derived.Lib.AppendStr
import Derived.Lib.ConvBytes
import Derived.Maps.AppendAt
import Derived.OrdersHeld
import Derived.OwnWalk
import Derived.RowKit
import Derived.RowKit3
import Derived.Tactics
import Derived.Test.YtopdjokncbpghaaGreatDoorProg
import Derived.WalkKit
import Derived.WideLaws
set_option maxHeartbeats 8000000
set_option maxRecDepth 100000
set_option linter.unusedVariables false
set_option linter.unusedSimpArgs false
section
namespace Go.Proofs.YtopdjokncbpghaaGreatDoor.Pr
open Go.RowKit Go.Proofs.YtopdjokncbpghaaGreatDoorW.PrintWords Go.Proofs.YtopdjokncbpghaaGreatDoorW.PrintLast Go.Proofs.YtopdjokncbpghaaGreatDoorW.PrintMore
attribute [local go_sem] max2_int min2_int max_two min_two max_three min_three max_four min_four   -- for this text's walks alone
def errW : Option Int → Value
 | none => .nilIface
 | some c => .iface 0 (.int .i64 c)
theorem errW_none : errW none = .nilIface := rfl
theorem errW_some (c : Int) : errW (some c) = .iface 0 (.int .i64 c) := rfl
theorem info9 : (Tryz.prog.info? 9).map (fun i => (i.zero, i.size, i.bytes)) = some (some (.string ⟨#[]⟩), 1, 16) := by kernel_rfl
theorem info24 : (Tryz.prog.info? 24).map (fun i => (i.zero, i.size, i.bytes)) = some (some (.agg #[(.string ⟨#[]⟩), (.int .i64 0), (.int .i64 0), (.slice none 0 0)]), 4, 56) := by kernel_rfl
theorem info44 : (Tryz.prog.info? 44).map (fun i => (i.zero, i.size, i.bytes)) = some (some (.agg #[(.int .i64 0), (.int .i64 0), (.int .i64 0), (.string ⟨#[]⟩), (.bool false), (.int .i64 0), (.int .i64 0), (.int .i64 0), (.bool false), (.bool false), (.int .i64 0), (.int .i64 0), (.bool false), (.bool false), (.string ⟨#[]⟩), (.slice none 0 0)]), 16, 144) := by kernel_rfl
theorem info58 : (Tryz.prog.info? 58).map (fun i => (i.zero, i.size, i.bytes)) = some (some (.agg #[(.int .i64 0), (.int .i64 0), (.int .i64 0), (.int .i64 0)]), 4, 32) := by kernel_rfl
theorem info62 : (Tryz.prog.info? 62).map (fun i => (i.zero, i.size, i.bytes)) = some (some (.int .i64 0), 1, 8) := by kernel_rfl
theorem info120 : (Tryz.prog.info? 120).map (fun i => (i.zero, i.size, i.bytes)) = some (some (.agg #[(.int .i64 0), (.int .i64 0), (.int .i64 0), (.string ⟨#[]⟩), (.bool false), (.int .i64 0), (.int .i64 0), (.int .i64 0), (.bool false), (.bool false), (.string ⟨#[]⟩), (.int .i64 0)]), 12, 104) := by kernel_rfl
structure S24 where
 f0 : ByteArray
 f1 : Int
 f2 : Int
 f3 : (List Int)
def z24 : S24 := ⟨(⟨#[]⟩ : ByteArray), (0 : Int), (0 : Int), ([] : List Int)⟩
def k24 : Kd S24 := Kd.iso (Kd.pair Kd.string (Kd.pair (Kd.int .i64) (Kd.pair (Kd.int .i64) (Kd.slice 62 (Kd.int .i64))))) (fun x : S24 => (x.f0, x.f1, x.f2, x.f3))
theorem k24_open {w : World} {x : S24} {cs : List Value} (h : k24.K w x cs) : ∃ A3 c3, cs = [.string x.f0, .int .i64 x.f1, .int .i64 x.f2, .slice A3 x.f3.length c3] ∧ x.f3.length ≤ c3 ∧ (Kd.int .i64).C w A3 x.f3.length x.f3 := by
 obtain ⟨_, _, rfl, rfl, ⟨_, _, rfl, rfl, ⟨_, _, rfl, rfl, ⟨A3, c3, rfl, l3, g3⟩⟩⟩⟩ := h
 exact ⟨A3, c3, rfl, l3, g3⟩
theorem k24_openM {w : World} {base : Nat} {ok : Nat → Prop} {x : S24} {cs : List Value} (h : k24.M w base ok x cs) : ∃ v3, cs = [.string x.f0, .int .i64 x.f1, .int .i64 x.f2, v3] ∧ (Kd.int .i64).R 62 w base ok v3 x.f3 := by
 obtain ⟨_, _, rfl, rfl, ⟨_, _, rfl, rfl, ⟨_, _, rfl, rfl, ⟨v3, rfl, g3⟩⟩⟩⟩ := h
 exact ⟨v3, rfl, g3⟩
theorem k24_mk (w : World) (x : S24) {A3 : Option Addr} {c3 : Nat} (l3 : x.f3.length ≤ c3) (g3 : (Kd.int .i64).C w A3 x.f3.length x.f3) : k24.K w x [.string x.f0, .int .i64 x.f1, .int .i64 x.f2, .slice A3 x.f3.length c3] := ⟨[.string x.f0], [.int .i64 x.f1, .int .i64 x.f2, .slice A3 x.f3.length c3], rfl, rfl, ⟨[.int .i64 x.f1], [.int .i64 x.f2, .slice A3 x.f3.length c3], rfl, rfl, ⟨[.int .i64 x.f2], [.slice A3 x.f3.length c3], rfl, rfl, ⟨A3, c3, rfl, l3, g3⟩⟩⟩⟩
theorem k24_mkM (w : World) (base : Nat) (ok : Nat → Prop) (x : S24) {v3 : Value} (g3 : (Kd.int .i64).R 62 w base ok v3 x.f3) : k24.M w base ok x [.string x.f0, .int .i64 x.f1, .int .i64 x.f2, v3] := ⟨[.string x.f0], [.int .i64 x.f1, .int .i64 x.f2, v3], rfl, rfl, ⟨[.int .i64 x.f1], [.int .i64 x.f2, v3], rfl, rfl, ⟨[.int .i64 x.f2], [v3], rfl, rfl, ⟨v3, rfl, g3⟩⟩⟩⟩
def rd_T24 (xs : List S24) (i : Int) : S24 := xs.getD i.toNat z24
theorem at_T24 {w : World} {A : Option Addr} {n : Nat} {xs : List S24} (h : Kd.C k24 w A n xs) (i : Int) (h0 : 0 ≤ i) (h1 : i < n) : ∃ ad A3 c3, A = some ad ∧ w.cell? (ad.add (i.toNat * 4)) = some (.string (rd_T24 xs i).f0) ∧ w.cell? ⟨(ad.add (i.toNat * 4)).block, (ad.add (i.toNat * 4)).off + 1, none⟩ = some (.int .i64 (rd_T24 xs i).f1) ∧ w.cell? ⟨(ad.add (i.toNat * 4)).block, (ad.add (i.toNat * 4)).off + 2, none⟩ = some (.int .i64 (rd_T24 xs i).f2) ∧ w.cell? ⟨(ad.add (i.toNat * 4)).block, (ad.add (i.toNat * 4)).off + 3, none⟩ = some (.slice A3 (rd_T24 xs i).f3.length c3) ∧ (rd_T24 xs i).f3.length ≤ c3 ∧ (Kd.int .i64).C w A3 (rd_T24 xs i).f3.length (rd_T24 xs i).f3 := by
 obtain ⟨ad, c, e, _, hK, hc0⟩ := Kd.C_get h z24 i h0 h1
 have hc : ∀ j u, c[j]? = some u → w.cell? (ad.add (i.toNat * 4 + j)) = some u := hc0
 obtain ⟨A3, c3, rfl, l3, g3⟩ := k24_open hK
 exact ⟨ad, A3, c3, e, hc 0 _ rfl, by rw [← add_field _ _ 1 (by omega)]; exact hc 1 _ rfl, by rw [← add_field _ _ 2 (by omega)]; exact hc 2 _ rfl, by rw [← add_field _ _ 3 (by omega)]; exact hc 3 _ rfl, l3, g3⟩
structure S37 where
 f0 : Int
 f1 : Int
 f2 : ByteArray
 f3 : Bool
 f4 : Int
def z37 : S37 := ⟨(0 : Int), (0 : Int), (⟨#[]⟩ : ByteArray), false, (0 : Int)⟩
def k37 : Kd S37 := Kd.iso (Kd.pair (Kd.int .i64) (Kd.pair (Kd.int .i64) (Kd.pair Kd.string (Kd.pair Kd.bool (Kd.int .i64))))) (fun x : S37 => (x.f0, x.f1, x.f2, x.f3, x.f4))
theorem k37_open {w : World} {x : S37} {cs : List Value} (h : k37.K w x cs) : cs = [.int .i64 x.f0, .int .i64 x.f1, .string x.f2, .bool x.f3, .int .i64 x.f4] := by
 obtain ⟨_, _, rfl, rfl, ⟨_, _, rfl, rfl, ⟨_, _, rfl, rfl, ⟨_, _, rfl, rfl, rfl⟩⟩⟩⟩ := h
 exact rfl
theorem k37_mk (w : World) (x : S37)  : k37.K w x [.int .i64 x.f0, .int .i64 x.f1, .string x.f2, .bool x.f3, .int .i64 x.f4] := ⟨[.int .i64 x.f0], [.int .i64 x.f1, .string x.f2, .bool x.f3, .int .i64 x.f4], rfl, rfl, ⟨[.int .i64 x.f1], [.string x.f2, .bool x.f3, .int .i64 x.f4], rfl, rfl, ⟨[.string x.f2], [.bool x.f3, .int .i64 x.f4], rfl, rfl, ⟨[.bool x.f3], [.int .i64 x.f4], rfl, rfl, rfl⟩⟩⟩⟩
theorem k37_mkM (w : World) (base : Nat) (ok : Nat → Prop) (x : S37)  : k37.M w base ok x [.int .i64 x.f0, .int .i64 x.f1, .string x.f2, .bool x.f3, .int .i64 x.f4] := ⟨[.int .i64 x.f0], [.int .i64 x.f1, .string x.f2, .bool x.f3, .int .i64 x.f4], rfl, rfl, ⟨[.int .i64 x.f1], [.string x.f2, .bool x.f3, .int .i64 x.f4], rfl, rfl, ⟨[.string x.f2], [.bool x.f3, .int .i64 x.f4], rfl, rfl, ⟨[.bool x.f3], [.int .i64 x.f4], rfl, rfl, rfl⟩⟩⟩⟩
structure S39 where
 f0 : Int
 f1 : Int
def z39 : S39 := ⟨(0 : Int), (0 : Int)⟩
def k39 : Kd S39 := Kd.iso (Kd.pair (Kd.int .i64) (Kd.int .i64)) (fun x : S39 => (x.f0, x.f1))
theorem k39_open {w : World} {x : S39} {cs : List Value} (h : k39.K w x cs) : cs = [.int .i64 x.f0, .int .i64 x.f1] := by
 obtain ⟨_, _, rfl, rfl, rfl⟩ := h
 exact rfl
theorem k39_mk (w : World) (x : S39)  : k39.K w x [.int .i64 x.f0, .int .i64 x.f1] := ⟨[.int .i64 x.f0], [.int .i64 x.f1], rfl, rfl, rfl⟩
theorem k39_mkM (w : World) (base : Nat) (ok : Nat → Prop) (x : S39)  : k39.M w base ok x [.int .i64 x.f0, .int .i64 x.f1] := ⟨[.int .i64 x.f0], [.int .i64 x.f1], rfl, rfl, rfl⟩
structure S41 where
 f0 : S39
 f1 : Bool
 f2 : Bool
def z41 : S41 := ⟨z39, false, false⟩
def k41 : Kd S41 := Kd.iso (Kd.pair k39 (Kd.pair Kd.bool Kd.bool)) (fun x : S41 => (x.f0, x.f1, x.f2))
theorem k41_open {w : World} {x : S41} {cs : List Value} (h : k41.K w x cs) : cs = [.int .i64 x.f0.f0, .int .i64 x.f0.f1, .bool x.f1, .bool x.f2] := by
 obtain ⟨_, _, rfl, s0, ⟨_, _, rfl, rfl, rfl⟩⟩ := h
 obtain rfl := k39_open s0
 exact rfl
theorem k41_mk (w : World) (x : S41)  : k41.K w x [.int .i64 x.f0.f0, .int .i64 x.f0.f1, .bool x.f1, .bool x.f2] := ⟨[.int .i64 x.f0.f0, .int .i64 x.f0.f1], [.bool x.f1, .bool x.f2], rfl, (k39_mk w x.f0 ), ⟨[.bool x.f1], [.bool x.f2], rfl, rfl, rfl⟩⟩
theorem k41_mkM (w : World) (base : Nat) (ok : Nat → Prop) (x : S41)  : k41.M w base ok x [.int .i64 x.f0.f0, .int .i64 x.f0.f1, .bool x.f1, .bool x.f2] := ⟨[.int .i64 x.f0.f0, .int .i64 x.f0.f1], [.bool x.f1, .bool x.f2], rfl, (k39_mkM w base ok x.f0 ), ⟨[.bool x.f1], [.bool x.f2], rfl, rfl, rfl⟩⟩
structure S44 where
 f0 : Int
 f1 : S37
 f2 : S41
 f3 : S41
 f4 : ByteArray
 f5 : (List S44)
def z44 : S44 := ⟨(0 : Int), z37, z41, z41, (⟨#[]⟩ : ByteArray), ([] : List S44)⟩
def F44 (d : Kd S44) : Kd S44 := Kd.iso (Kd.pair (Kd.int .i64) (Kd.pair k37 (Kd.pair k41 (Kd.pair k41 (Kd.pair Kd.string (Kd.slice 44 d)))))) (fun x : S44 => (x.f0, x.f1, x.f2, x.f3, x.f4, x.f5))
theorem mono44 : Kd.Mono F44 := Kd.mono_iso _ (Kd.mono_pair (Kd.mono_const _) (Kd.mono_pair (Kd.mono_const _) (Kd.mono_pair (Kd.mono_const _) (Kd.mono_pair (Kd.mono_const _) (Kd.mono_pair (Kd.mono_const _) (Kd.mono_slice 44 Kd.mono_id))))))
theorem sub44 : Kd.Sub F44 [44] := Kd.sub_iso _ (Kd.sub_pair (Kd.sub_const _ (by decide)) (Kd.sub_pair (Kd.sub_const _ (by decide)) (Kd.sub_pair (Kd.sub_const _ (by decide)) (Kd.sub_pair (Kd.sub_const _ (by decide)) (Kd.sub_pair (Kd.sub_const _ (by decide)) (Kd.sub_slice 44 (by decide) Kd.sub_id))))))
theorem sz44 : ∀ n, (Kd.upto F44 16 [44] n).sz = 16 := Kd.upto_sz (fun _ => rfl)
def k44 : Kd S44 := Kd.fix F44 16 [44] sz44 (Kd.upto_E sub44)
theorem k44_open {w : World} {x : S44} {cs : List Value} (h : k44.K w x cs) : ∃ A15 c15, cs = [.int .i64 x.f0, .int .i64 x.f1.f0, .int .i64 x.f1.f1, .string x.f1.f2, .bool x.f1.f3, .int .i64 x.f1.f4, .int .i64 x.f2.f0.f0, .int .i64 x.f2.f0.f1, .bool x.f2.f1, .bool x.f2.f2, .int .i64 x.f3.f0.f0, .int .i64 x.f3.f0.f1, .bool x.f3.f1, .bool x.f3.f2, .string x.f4, .slice A15 x.f5.length c15] ∧ x.f5.length ≤ c15 ∧ k44.C w A15 x.f5.length x.f5 := by
 obtain ⟨n, h⟩ := h
 cases n with
 | zero => exact h.elim
 | succ n =>
  obtain ⟨_, _, rfl, rfl, ⟨_, _, rfl, s1, ⟨_, _, rfl, s6, ⟨_, _, rfl, s10, ⟨_, _, rfl, rfl, ⟨A15, c15, rfl, l15, g15⟩⟩⟩⟩⟩⟩ := h
  obtain rfl := k37_open s1
  obtain rfl := k41_open s6
  obtain rfl := k41_open s10
  exact ⟨A15, c15, rfl, l15, Kd.fix_C g15⟩
theorem k44_mk (w : World) (x : S44) {A15 : Option Addr} {c15 : Nat} (l15 : x.f5.length ≤ c15) (g15 : k44.C w A15 x.f5.length x.f5) : k44.K w x [.int .i64 x.f0, .int .i64 x.f1.f0, .int .i64 x.f1.f1, .string x.f1.f2, .bool x.f1.f3, .int .i64 x.f1.f4, .int .i64 x.f2.f0.f0, .int .i64 x.f2.f0.f1, .bool x.f2.f1, .bool x.f2.f2, .int .i64 x.f3.f0.f0, .int .i64 x.f3.f0.f1, .bool x.f3.f1, .bool x.f3.f2, .string x.f4, .slice A15 x.f5.length c15] := by
 obtain ⟨n15, q15⟩ := Kd.fix_C_back mono44 g15
 have r15 := Kd.upto_C_le mono44 sz44 (show n15 ≤ n15 by omega) q15
 exact ⟨n15 + 1, ⟨[.int .i64 x.f0], [.int .i64 x.f1.f0, .int .i64 x.f1.f1, .string x.f1.f2, .bool x.f1.f3, .int .i64 x.f1.f4, .int .i64 x.f2.f0.f0, .int .i64 x.f2.f0.f1, .bool x.f2.f1, .bool x.f2.f2, .int .i64 x.f3.f0.f0, .int .i64 x.f3.f0.f1, .bool x.f3.f1, .bool x.f3.f2, .string x.f4, .slice A15 x.f5.length c15], rfl, rfl, ⟨[.int .i64 x.f1.f0, .int .i64 x.f1.f1, .string x.f1.f2, .bool x.f1.f3, .int .i64 x.f1.f4], [.int .i64 x.f2.f0.f0, .int .i64 x.f2.f0.f1, .bool x.f2.f1, .bool x.f2.f2, .int .i64 x.f3.f0.f0, .int .i64 x.f3.f0.f1, .bool x.f3.f1, .bool x.f3.f2, .string x.f4, .slice A15 x.f5.length c15], rfl, (k37_mk w x.f1 ), ⟨[.int .i64 x.f2.f0.f0, .int .i64 x.f2.f0.f1, .bool x.f2.f1, .bool x.f2.f2], [.int .i64 x.f3.f0.f0, .int .i64 x.f3.f0.f1, .bool x.f3.f1, .bool x.f3.f2, .string x.f4, .slice A15 x.f5.length c15], rfl, (k41_mk w x.f2 ), ⟨[.int .i64 x.f3.f0.f0, .int .i64 x.f3.f0.f1, .bool x.f3.f1, .bool x.f3.f2], [.string x.f4, .slice A15 x.f5.length c15], rfl, (k41_mk w x.f3 ), ⟨[.string x.f4], [.slice A15 x.f5.length c15], rfl, rfl, ⟨A15, c15, rfl, l15, r15⟩⟩⟩⟩⟩⟩⟩
def rd_T44 (xs : List S44) (i : Int) : S44 := xs.getD i.toNat z44
theorem at_T44 {w : World} {A : Option Addr} {n : Nat} {xs : List S44} (h : Kd.C k44 w A n xs) (i : Int) (h0 : 0 ≤ i) (h1 : i < n) : ∃ ad A15 c15, A = some ad ∧ w.cell? (ad.add (i.toNat * 16)) = some (.int .i64 (rd_T44 xs i).f0) ∧ w.cell? ⟨(ad.add (i.toNat * 16)).block, (ad.add (i.toNat * 16)).off + 1, none⟩ = some (.int .i64 (rd_T44 xs i).f1.f0) ∧ w.cell? ⟨(ad.add (i.toNat * 16)).block, (ad.add (i.toNat * 16)).off + 2, none⟩ = some (.int .i64 (rd_T44 xs i).f1.f1) ∧ w.cell? ⟨(ad.add (i.toNat * 16)).block, (ad.add (i.toNat * 16)).off + 3, none⟩ = some (.string (rd_T44 xs i).f1.f2) ∧ w.cell? ⟨(ad.add (i.toNat * 16)).block, (ad.add (i.toNat * 16)).off + 4, none⟩ = some (.bool (rd_T44 xs i).f1.f3) ∧ w.cell? ⟨(ad.add (i.toNat * 16)).block, (ad.add (i.toNat * 16)).off + 5, none⟩ = some (.int .i64 (rd_T44 xs i).f1.f4) ∧ w.cell? ⟨(ad.add (i.toNat * 16)).block, (ad.add (i.toNat * 16)).off + 6, none⟩ = some (.int .i64 (rd_T44 xs i).f2.f0.f0) ∧ w.cell? ⟨(ad.add (i.toNat * 16)).block, (ad.add (i.toNat * 16)).off + 7, none⟩ = some (.int .i64 (rd_T44 xs i).f2.f0.f1) ∧ w.cell? ⟨(ad.add (i.toNat * 16)).block, (ad.add (i.toNat * 16)).off + 8, none⟩ = some (.bool (rd_T44 xs i).f2.f1) ∧ w.cell? ⟨(ad.add (i.toNat * 16)).block, (ad.add (i.toNat * 16)).off + 9, none⟩ = some (.bool (rd_T44 xs i).f2.f2) ∧ w.cell? ⟨(ad.add (i.toNat * 16)).block, (ad.add (i.toNat * 16)).off + 10, none⟩ = some (.int .i64 (rd_T44 xs i).f3.f0.f0) ∧ w.cell? ⟨(ad.add (i.toNat * 16)).block, (ad.add (i.toNat * 16)).off + 11, none⟩ = some (.int .i64 (rd_T44 xs i).f3.f0.f1) ∧ w.cell? ⟨(ad.add (i.toNat * 16)).block, (ad.add (i.toNat * 16)).off + 12, none⟩ = some (.bool (rd_T44 xs i).f3.f1) ∧ w.cell? ⟨(ad.add (i.toNat * 16)).block, (ad.add (i.toNat * 16)).off + 13, none⟩ = some (.bool (rd_T44 xs i).f3.f2) ∧ w.cell? ⟨(ad.add (i.toNat * 16)).block, (ad.add (i.toNat * 16)).off + 14, none⟩ = some (.string (rd_T44 xs i).f4) ∧ w.cell? ⟨(ad.add (i.toNat * 16)).block, (ad.add (i.toNat * 16)).off + 15, none⟩ = some (.slice A15 (rd_T44 xs i).f5.length c15) ∧ (rd_T44 xs i).f5.length ≤ c15 ∧ k44.C w A15 (rd_T44 xs i).f5.length (rd_T44 xs i).f5 := by
 obtain ⟨ad, c, e, _, hK, hc0⟩ := Kd.C_get h z44 i h0 h1
 have hc : ∀ j u, c[j]? = some u → w.cell? (ad.add (i.toNat * 16 + j)) = some u := hc0
 obtain ⟨A15, c15, rfl, l15, g15⟩ := k44_open hK
 exact ⟨ad, A15, c15, e, hc 0 _ rfl, by rw [← add_field _ _ 1 (by omega)]; exact hc 1 _ rfl, by rw [← add_field _ _ 2 (by omega)]; exact hc 2 _ rfl, by rw [← add_field _ _ 3 (by omega)]; exact hc 3 _ rfl, by rw [← add_field _ _ 4 (by omega)]; exact hc 4 _ rfl, by rw [← add_field _ _ 5 (by omega)]; exact hc 5 _ rfl, by rw [← add_field _ _ 6 (by omega)]; exact hc 6 _ rfl, by rw [← add_field _ _ 7 (by omega)]; exact hc 7 _ rfl, by rw [← add_field _ _ 8 (by omega)]; exact hc 8 _ rfl, by rw [← add_field _ _ 9 (by omega)]; exact hc 9 _ rfl, by rw [← add_field _ _ 10 (by omega)]; exact hc 10 _ rfl, by rw [← add_field _ _ 11 (by omega)]; exact hc 11 _ rfl, by rw [← add_field _ _ 12 (by omega)]; exact hc 12 _ rfl, by rw [← add_field _ _ 13 (by omega)]; exact hc 13 _ rfl, by rw [← add_field _ _ 14 (by omega)]; exact hc 14 _ rfl, by rw [← add_field _ _ 15 (by omega)]; exact hc 15 _ rfl, l15, g15⟩
structure S58 where
 f0 : Int
 f1 : Int
 f2 : Int
 f3 : Int
def z58 : S58 := ⟨(0 : Int), (0 : Int), (0 : Int), (0 : Int)⟩
def k58 : Kd S58 := Kd.iso (Kd.pair (Kd.int .i64) (Kd.pair (Kd.int .i64) (Kd.pair (Kd.int .i64) (Kd.int .i64)))) (fun x : S58 => (x.f0, x.f1, x.f2, x.f3))
theorem k58_open {w : World} {x : S58} {cs : List Value} (h : k58.K w x cs) : cs = [.int .i64 x.f0, .int .i64 x.f1, .int .i64 x.f2, .int .i64 x.f3] := by
 obtain ⟨_, _, rfl, rfl, ⟨_, _, rfl, rfl, ⟨_, _, rfl, rfl, rfl⟩⟩⟩ := h
 exact rfl
theorem k58_mkM (w : World) (base : Nat) (ok : Nat → Prop) (x : S58)  : k58.M w base ok x [.int .i64 x.f0, .int .i64 x.f1, .int .i64 x.f2, .int .i64 x.f3] := ⟨[.int .i64 x.f0], [.int .i64 x.f1, .int .i64 x.f2, .int .i64 x.f3], rfl, rfl, ⟨[.int .i64 x.f1], [.int .i64 x.f2, .int .i64 x.f3], rfl, rfl, ⟨[.int .i64 x.f2], [.int .i64 x.f3], rfl, rfl, rfl⟩⟩⟩
def rd_T58 (xs : List S58) (i : Int) : S58 := xs.getD i.toNat z58
theorem at_T58 {w : World} {A : Option Addr} {n : Nat} {xs : List S58} (h : Kd.C k58 w A n xs) (i : Int) (h0 : 0 ≤ i) (h1 : i < n) : ∃ ad , A = some ad ∧ w.cell? (ad.add (i.toNat * 4)) = some (.int .i64 (rd_T58 xs i).f0) ∧ w.cell? ⟨(ad.add (i.toNat * 4)).block, (ad.add (i.toNat * 4)).off + 1, none⟩ = some (.int .i64 (rd_T58 xs i).f1) ∧ w.cell? ⟨(ad.add (i.toNat * 4)).block, (ad.add (i.toNat * 4)).off + 2, none⟩ = some (.int .i64 (rd_T58 xs i).f2) ∧ w.cell? ⟨(ad.add (i.toNat * 4)).block, (ad.add (i.toNat * 4)).off + 3, none⟩ = some (.int .i64 (rd_T58 xs i).f3) := by
 obtain ⟨ad, c, e, _, hK, hc0⟩ := Kd.C_get h z58 i h0 h1
 have hc : ∀ j u, c[j]? = some u → w.cell? (ad.add (i.toNat * 4 + j)) = some u := hc0
 obtain rfl := k58_open hK
 exact ⟨ad, e, hc 0 _ rfl, by rw [← add_field _ _ 1 (by omega)]; exact hc 1 _ rfl, by rw [← add_field _ _ 2 (by omega)]; exact hc 2 _ rfl, by rw [← add_field _ _ 3 (by omega)]; exact hc 3 _ rfl⟩
structure S68 where
 f0 : ByteArray
 f1 : Int
 f2 : Int
 f3 : ByteArray
def z68 : S68 := ⟨(⟨#[]⟩ : ByteArray), (0 : Int), (0 : Int), (⟨#[]⟩ : ByteArray)⟩
def k68 : Kd S68 := Kd.iso (Kd.pair Kd.string (Kd.pair (Kd.int .i64) (Kd.pair (Kd.int .i64) Kd.string))) (fun x : S68 => (x.f0, x.f1, x.f2, x.f3))
theorem k68_open {w : World} {x : S68} {cs : List Value} (h : k68.K w x cs) : cs = [.string x.f0, .int .i64 x.f1, .int .i64 x.f2, .string x.f3] := by
 obtain ⟨_, _, rfl, rfl, ⟨_, _, rfl, rfl, ⟨_, _, rfl, rfl, rfl⟩⟩⟩ := h
 exact rfl
theorem k68_mkM (w : World) (base : Nat) (ok : Nat → Prop) (x : S68)  : k68.M w base ok x [.string x.f0, .int .i64 x.f1, .int .i64 x.f2, .string x.f3] := ⟨[.string x.f0], [.int .i64 x.f1, .int .i64 x.f2, .string x.f3], rfl, rfl, ⟨[.int .i64 x.f1], [.int .i64 x.f2, .string x.f3], rfl, rfl, ⟨[.int .i64 x.f2], [.string x.f3], rfl, rfl, rfl⟩⟩⟩
def rd_T68 (xs : List S68) (i : Int) : S68 := xs.getD i.toNat z68
theorem at_T68 {w : World} {A : Option Addr} {n : Nat} {xs : List S68} (h : Kd.C k68 w A n xs) (i : Int) (h0 : 0 ≤ i) (h1 : i < n) : ∃ ad , A = some ad ∧ w.cell? (ad.add (i.toNat * 4)) = some (.string (rd_T68 xs i).f0) ∧ w.cell? ⟨(ad.add (i.toNat * 4)).block, (ad.add (i.toNat * 4)).off + 1, none⟩ = some (.int .i64 (rd_T68 xs i).f1) ∧ w.cell? ⟨(ad.add (i.toNat * 4)).block, (ad.add (i.toNat * 4)).off + 2, none⟩ = some (.int .i64 (rd_T68 xs i).f2) ∧ w.cell? ⟨(ad.add (i.toNat * 4)).block, (ad.add (i.toNat * 4)).off + 3, none⟩ = some (.string (rd_T68 xs i).f3) := by
 obtain ⟨ad, c, e, _, hK, hc0⟩ := Kd.C_get h z68 i h0 h1
 have hc : ∀ j u, c[j]? = some u → w.cell? (ad.add (i.toNat * 4 + j)) = some u := hc0
 obtain rfl := k68_open hK
 exact ⟨ad, e, hc 0 _ rfl, by rw [← add_field _ _ 1 (by omega)]; exact hc 1 _ rfl, by rw [← add_field _ _ 2 (by omega)]; exact hc 2 _ rfl, by rw [← add_field _ _ 3 (by omega)]; exact hc 3 _ rfl⟩
structure S76 where
 f0 : ByteArray
 f1 : Int
 f2 : Int
 f3 : ByteArray
def z76 : S76 := ⟨(⟨#[]⟩ : ByteArray), (0 : Int), (0 : Int), (⟨#[]⟩ : ByteArray)⟩
def k76 : Kd S76 := Kd.iso (Kd.pair Kd.string (Kd.pair (Kd.int .i64) (Kd.pair (Kd.int .i64) Kd.string))) (fun x : S76 => (x.f0, x.f1, x.f2, x.f3))
theorem k76_open {w : World} {x : S76} {cs : List Value} (h : k76.K w x cs) : cs = [.string x.f0, .int .i64 x.f1, .int .i64 x.f2, .string x.f3] := by
 obtain ⟨_, _, rfl, rfl, ⟨_, _, rfl, rfl, ⟨_, _, rfl, rfl, rfl⟩⟩⟩ := h
 exact rfl
theorem k76_mkM (w : World) (base : Nat) (ok : Nat → Prop) (x : S76)  : k76.M w base ok x [.string x.f0, .int .i64 x.f1, .int .i64 x.f2, .string x.f3] := ⟨[.string x.f0], [.int .i64 x.f1, .int .i64 x.f2, .string x.f3], rfl, rfl, ⟨[.int .i64 x.f1], [.int .i64 x.f2, .string x.f3], rfl, rfl, ⟨[.int .i64 x.f2], [.string x.f3], rfl, rfl, rfl⟩⟩⟩
def rd_T76 (xs : List S76) (i : Int) : S76 := xs.getD i.toNat z76
theorem at_T76 {w : World} {A : Option Addr} {n : Nat} {xs : List S76} (h : Kd.C k76 w A n xs) (i : Int) (h0 : 0 ≤ i) (h1 : i < n) : ∃ ad , A = some ad ∧ w.cell? (ad.add (i.toNat * 4)) = some (.string (rd_T76 xs i).f0) ∧ w.cell? ⟨(ad.add (i.toNat * 4)).block, (ad.add (i.toNat * 4)).off + 1, none⟩ = some (.int .i64 (rd_T76 xs i).f1) ∧ w.cell? ⟨(ad.add (i.toNat * 4)).block, (ad.add (i.toNat * 4)).off + 2, none⟩ = some (.int .i64 (rd_T76 xs i).f2) ∧ w.cell? ⟨(ad.add (i.toNat * 4)).block, (ad.add (i.toNat * 4)).off + 3, none⟩ = some (.string (rd_T76 xs i).f3) := by
 obtain ⟨ad, c, e, _, hK, hc0⟩ := Kd.C_get h z76 i h0 h1
 have hc : ∀ j u, c[j]? = some u → w.cell? (ad.add (i.toNat * 4 + j)) = some u := hc0
 obtain rfl := k76_open hK
 exact ⟨ad, e, hc 0 _ rfl, by rw [← add_field _ _ 1 (by omega)]; exact hc 1 _ rfl, by rw [← add_field _ _ 2 (by omega)]; exact hc 2 _ rfl, by rw [← add_field _ _ 3 (by omega)]; exact hc 3 _ rfl⟩
structure S120 where
 f0 : Int
 f1 : S37
 f2 : S41
 f3 : ByteArray
 f4 : Int
def z120 : S120 := ⟨(0 : Int), z37, z41, (⟨#[]⟩ : ByteArray), (0 : Int)⟩
def k120 : Kd S120 := Kd.iso (Kd.pair (Kd.int .i64) (Kd.pair k37 (Kd.pair k41 (Kd.pair Kd.string (Kd.int .i64))))) (fun x : S120 => (x.f0, x.f1, x.f2, x.f3, x.f4))
theorem k120_open {w : World} {x : S120} {cs : List Value} (h : k120.K w x cs) : cs = [.int .i64 x.f0, .int .i64 x.f1.f0, .int .i64 x.f1.f1, .string x.f1.f2, .bool x.f1.f3, .int .i64 x.f1.f4, .int .i64 x.f2.f0.f0, .int .i64 x.f2.f0.f1, .bool x.f2.f1, .bool x.f2.f2, .string x.f3, .int .i64 x.f4] := by
 obtain ⟨_, _, rfl, rfl, ⟨_, _, rfl, s1, ⟨_, _, rfl, s6, ⟨_, _, rfl, rfl, rfl⟩⟩⟩⟩ := h
 obtain rfl := k37_open s1
 obtain rfl := k41_open s6
 exact rfl
theorem k120_mkM (w : World) (base : Nat) (ok : Nat → Prop) (x : S120)  : k120.M w base ok x [.int .i64 x.f0, .int .i64 x.f1.f0, .int .i64 x.f1.f1, .string x.f1.f2, .bool x.f1.f3, .int .i64 x.f1.f4, .int .i64 x.f2.f0.f0, .int .i64 x.f2.f0.f1, .bool x.f2.f1, .bool x.f2.f2, .string x.f3, .int .i64 x.f4] := ⟨[.int .i64 x.f0], [.int .i64 x.f1.f0, .int .i64 x.f1.f1, .string x.f1.f2, .bool x.f1.f3, .int .i64 x.f1.f4, .int .i64 x.f2.f0.f0, .int .i64 x.f2.f0.f1, .bool x.f2.f1, .bool x.f2.f2, .string x.f3, .int .i64 x.f4], rfl, rfl, ⟨[.int .i64 x.f1.f0, .int .i64 x.f1.f1, .string x.f1.f2, .bool x.f1.f3, .int .i64 x.f1.f4], [.int .i64 x.f2.f0.f0, .int .i64 x.f2.f0.f1, .bool x.f2.f1, .bool x.f2.f2, .string x.f3, .int .i64 x.f4], rfl, (k37_mkM w base ok x.f1 ), ⟨[.int .i64 x.f2.f0.f0, .int .i64 x.f2.f0.f1, .bool x.f2.f1, .bool x.f2.f2], [.string x.f3, .int .i64 x.f4], rfl, (k41_mkM w base ok x.f2 ), ⟨[.string x.f3], [.int .i64 x.f4], rfl, rfl, rfl⟩⟩⟩⟩
def rd_T120 (xs : List S120) (i : Int) : S120 := xs.getD i.toNat z120
theorem at_T120 {w : World} {A : Option Addr} {n : Nat} {xs : List S120} (h : Kd.C k120 w A n xs) (i : Int) (h0 : 0 ≤ i) (h1 : i < n) : ∃ ad , A = some ad ∧ w.cell? (ad.add (i.toNat * 12)) = some (.int .i64 (rd_T120 xs i).f0) ∧ w.cell? ⟨(ad.add (i.toNat * 12)).block, (ad.add (i.toNat * 12)).off + 1, none⟩ = some (.int .i64 (rd_T120 xs i).f1.f0) ∧ w.cell? ⟨(ad.add (i.toNat * 12)).block, (ad.add (i.toNat * 12)).off + 2, none⟩ = some (.int .i64 (rd_T120 xs i).f1.f1) ∧ w.cell? ⟨(ad.add (i.toNat * 12)).block, (ad.add (i.toNat * 12)).off + 3, none⟩ = some (.string (rd_T120 xs i).f1.f2) ∧ w.cell? ⟨(ad.add (i.toNat * 12)).block, (ad.add (i.toNat * 12)).off + 4, none⟩ = some (.bool (rd_T120 xs i).f1.f3) ∧ w.cell? ⟨(ad.add (i.toNat * 12)).block, (ad.add (i.toNat * 12)).off + 5, none⟩ = some (.int .i64 (rd_T120 xs i).f1.f4) ∧ w.cell? ⟨(ad.add (i.toNat * 12)).block, (ad.add (i.toNat * 12)).off + 6, none⟩ = some (.int .i64 (rd_T120 xs i).f2.f0.f0) ∧ w.cell? ⟨(ad.add (i.toNat * 12)).block, (ad.add (i.toNat * 12)).off + 7, none⟩ = some (.int .i64 (rd_T120 xs i).f2.f0.f1) ∧ w.cell? ⟨(ad.add (i.toNat * 12)).block, (ad.add (i.toNat * 12)).off + 8, none⟩ = some (.bool (rd_T120 xs i).f2.f1) ∧ w.cell? ⟨(ad.add (i.toNat * 12)).block, (ad.add (i.toNat * 12)).off + 9, none⟩ = some (.bool (rd_T120 xs i).f2.f2) ∧ w.cell? ⟨(ad.add (i.toNat * 12)).block, (ad.add (i.toNat * 12)).off + 10, none⟩ = some (.string (rd_T120 xs i).f3) ∧ w.cell? ⟨(ad.add (i.toNat * 12)).block, (ad.add (i.toNat * 12)).off + 11, none⟩ = some (.int .i64 (rd_T120 xs i).f4) := by
 obtain ⟨ad, c, e, _, hK, hc0⟩ := Kd.C_get h z120 i h0 h1
 have hc : ∀ j u, c[j]? = some u → w.cell? (ad.add (i.toNat * 12 + j)) = some u := hc0
 obtain rfl := k120_open hK
 exact ⟨ad, e, hc 0 _ rfl, by rw [← add_field _ _ 1 (by omega)]; exact hc 1 _ rfl, by rw [← add_field _ _ 2 (by omega)]; exact hc 2 _ rfl, by rw [← add_field _ _ 3 (by omega)]; exact hc 3 _ rfl, by rw [← add_field _ _ 4 (by omega)]; exact hc 4 _ rfl, by rw [← add_field _ _ 5 (by omega)]; exact hc 5 _ rfl, by rw [← add_field _ _ 6 (by omega)]; exact hc 6 _ rfl, by rw [← add_field _ _ 7 (by omega)]; exact hc 7 _ rfl, by rw [← add_field _ _ 8 (by omega)]; exact hc 8 _ rfl, by rw [← add_field _ _ 9 (by omega)]; exact hc 9 _ rfl, by rw [← add_field _ _ 10 (by omega)]; exact hc 10 _ rfl, by rw [← add_field _ _ 11 (by omega)]; exact hc 11 _ rfl⟩
section
variable {P : Program} {ops : Array Oper} {Q : Exit → Act → World → Prop} {md : Region.Mode} {S : World → Prop} {ds : List Nat} {T : Bool × List (List Nat × List Nat)} {B : List Nat} {oi : Oper} {v : Value} {fuel : Nat} {l : Array Bool} {a a' : Act} {w : World}
theorem pq (i : Nat) (N : Tmp) (hT : Aside0 (rtab md ops = T)) (h : wpAnyLast P md ops Q S ds fuel (l.setIfInBounds i true) a' w) (hi : ops[i]? = some oi := by exact rfl) (hN : oi.dst = some N := by exact rfl) (hc : anyT T l.toList (l.setIfInBounds i true).toList i = true := by kernel_rfl) (hw : Region.wanted oi (yielded ops a.tmps) = true := by rfl)
  (hr : ∀ w', (execOp a.eval oi).run P w' = .ok (.value v) w' := by
   intro w'
   go_simp
   with_reducible rfl) (ha : a.put (some N) v = a' := by
  simp only [Act.put, List.setIfInBounds_toArray, List.set_cons_zero, List.set_cons_succ, i64_w, i32_w]
  rfl) (hQ : ∀ c a w, Q (.panic c) (a.put oi.dst v) w → Q (.panic c) a w := by exact fun _ _ _ h => h) : wpAnyLast P md ops Q S ds (fuel + 1) l a w :=
 pure_ (l.setIfInBounds i true) hi hN (any_of hT.out hc) hQ (Or.inl ⟨hw, hr⟩) ha h
theorem uq (i : Nat) (N : Tmp) (hT : Aside0 (rtab md ops = T)) (h : wpAnyLast P md ops Q S ds fuel (l.setIfInBounds i true) a' w) (hi : ops[i]? = some oi := by exact rfl) (hN : oi.dst = some N := by exact rfl) (hc : anyT T l.toList (l.setIfInBounds i true).toList i = true := by kernel_rfl) (hw : Region.wanted oi (yielded ops a.tmps) = false := by rfl) (ha : a.put (some N) undef = a' := by
  simp only [Act.put, List.setIfInBounds_toArray, List.set_cons_zero, List.set_cons_succ, i64_w, i32_w]
  rfl) (hQ : ∀ c a w, Q (.panic c) (a.put oi.dst undef) w → Q (.panic c) a w := by exact fun _ _ _ h => h) : wpAnyLast P md ops Q S ds (fuel + 1) l a w :=
 pure_ (l.setIfInBounds i true) hi hN (any_of hT.out hc) hQ (Or.inr ⟨hw, rfl⟩) ha h
theorem tqa (i : Nat) (N : Tmp) (hT : Aside0 (rtab md ops = T)) (hB : Aside0 (waitsOk T.2 B = true)) (hS : S w) (h : wpAnyLast P md ops Q S ds fuel (l.setIfInBounds i true) a' w) (hi : ops[i]? = some oi := by exact rfl) (hN : oi.dst = some N := by exact rfl) (hc : takeW T B ds l.toList (l.setIfInBounds i true).toList i = true := by kernel_rfl) (hw : Region.wanted oi (yielded ops a.tmps) = true := by rfl)
  (hr : ∀ w', S w' → (execOp a.eval oi).run P w' = .ok (.value v) w' := by
   intro w' s0
   go_simp
   with_reducible rfl) (ha : a.put (some N) v = a' := by
  simp only [Act.put, List.setIfInBounds_toArray, List.set_cons_zero, List.set_cons_succ, i64_w, i32_w]
  rfl) (hQ : ∀ c a w, Q (.panic c) (a.put oi.dst v) w → Q (.panic c) a w := by exact fun _ _ _ h => h) : wpAnyLast P md ops Q S ds (fuel + 1) l a w :=
 take_ (l.setIfInBounds i true) hi hN (take_ofW hT.out hB.out hc) hQ (Or.inl ⟨hw, hr⟩) hS ha h
theorem tqb (i : Nat) (N : Tmp) (hT : Aside0 (rtab md ops = T)) (hB : Aside0 (waitsOk T.2 B = true)) (hS : S w) (h : wpAnyLast P md ops Q S ds fuel (l.setIfInBounds i true) a' w) (hi : ops[i]? = some oi := by exact rfl) (hN : oi.dst = some N := by exact rfl) (hc : takeW T B ds l.toList (l.setIfInBounds i true).toList i = true := by kernel_rfl) (hw : Region.wanted oi (yielded ops a.tmps) = true := by rfl)
  (hr : ∀ w', S w' → (execOp a.eval oi).run P w' = .ok (.value v) w' := by
   rintro w' ⟨s0, s1⟩
   go_simp
   with_reducible rfl) (ha : a.put (some N) v = a' := by
  simp only [Act.put, List.setIfInBounds_toArray, List.set_cons_zero, List.set_cons_succ, i64_w, i32_w]
  rfl) (hQ : ∀ c a w, Q (.panic c) (a.put oi.dst v) w → Q (.panic c) a w := by exact fun _ _ _ h => h) : wpAnyLast P md ops Q S ds (fuel + 1) l a w :=
 take_ (l.setIfInBounds i true) hi hN (take_ofW hT.out hB.out hc) hQ (Or.inl ⟨hw, hr⟩) hS ha h
theorem tqc (i : Nat) (N : Tmp) (hT : Aside0 (rtab md ops = T)) (hB : Aside0 (waitsOk T.2 B = true)) (hS : S w) (h : wpAnyLast P md ops Q S ds fuel (l.setIfInBounds i true) a' w) (hi : ops[i]? = some oi := by exact rfl) (hN : oi.dst = some N := by exact rfl) (hc : takeW T B ds l.toList (l.setIfInBounds i true).toList i = true := by kernel_rfl) (hw : Region.wanted oi (yielded ops a.tmps) = true := by rfl)
  (hr : ∀ w', S w' → (execOp a.eval oi).run P w' = .ok (.value v) w' := by
   rintro w' ⟨s0, s1, s2⟩
   go_simp
   with_reducible rfl) (ha : a.put (some N) v = a' := by
  simp only [Act.put, List.setIfInBounds_toArray, List.set_cons_zero, List.set_cons_succ, i64_w, i32_w]
  rfl) (hQ : ∀ c a w, Q (.panic c) (a.put oi.dst v) w → Q (.panic c) a w := by exact fun _ _ _ h => h) : wpAnyLast P md ops Q S ds (fuel + 1) l a w :=
 take_ (l.setIfInBounds i true) hi hN (take_ofW hT.out hB.out hc) hQ (Or.inl ⟨hw, hr⟩) hS ha h
end
section
variable {P : Program} {ops : Array Oper} {rest : List Oper} {o : Oper} {Q : Exit → Act → World → Prop} {md : Region.Mode} {S : World → Prop} {ds : List Nat} {T : Bool × List (List Nat × List Nat)} {B : List Nat} {oi : Oper} {v : Value} {fuel : Nat} {l : Array Bool} {a a' : Act} {w : World}
theorem pz (i : Nat) (N : Tmp) (hT : Aside0 (rtab md ops = T)) (h : wpAnyLast P md ops Q S ds fuel (l.setIfInBounds i true) a' w) (hi : ops[i]? = some oi := by exact rfl) (hN : oi.dst = some N := by exact rfl) (hc : anyT T l.toList (l.setIfInBounds i true).toList i = true := by kernel_rfl) (hw : Region.wanted oi (yielded ops a.tmps) = true := by rfl)
  (hr : ∀ w', (execOp a.eval oi).run P w' = .ok (.value v) w' := by intro w'; go_simp; with_reducible rfl) (ha : a.put (some N) v = a' := by simp only [Act.put, List.setIfInBounds_toArray, List.set_cons_zero, List.set_cons_succ]; rfl) (hQ : ∀ c a w, Q (.panic c) (a.put oi.dst v) w → Q (.panic c) a w := by exact fun _ _ _ h => h) : wpAnyLast P md ops Q S ds (fuel + 1) l a w := pure_ (l.setIfInBounds i true) hi hN (any_of hT.out hc) hQ (Or.inl ⟨hw, hr⟩) ha h
theorem uz (i : Nat) (N : Tmp) (hT : Aside0 (rtab md ops = T)) (h : wpAnyLast P md ops Q S ds fuel (l.setIfInBounds i true) a' w) (hi : ops[i]? = some oi := by exact rfl) (hN : oi.dst = some N := by exact rfl) (hc : anyT T l.toList (l.setIfInBounds i true).toList i = true := by kernel_rfl) (hw : Region.wanted oi (yielded ops a.tmps) = false := by rfl) (ha : a.put (some N) undef = a' := by simp only [Act.put, List.setIfInBounds_toArray, List.set_cons_zero, List.set_cons_succ]; rfl)
  (hQ : ∀ c a w, Q (.panic c) (a.put oi.dst undef) w → Q (.panic c) a w := by exact fun _ _ _ h => h) : wpAnyLast P md ops Q S ds (fuel + 1) l a w := pure_ (l.setIfInBounds i true) hi hN (any_of hT.out hc) hQ (Or.inr ⟨hw, rfl⟩) ha h
theorem tz (i : Nat) (N : Tmp) (hT : Aside0 (rtab md ops = T)) (hB : Aside0 (waitsOk T.2 B = true)) (hi : ops[i]? = some oi := by exact rfl) (hN : oi.dst = some N := by exact rfl) (hc : takeW T B ds l.toList (l.setIfInBounds i true).toList i = true := by kernel_rfl) (hw : Region.wanted oi (yielded ops a.tmps) = true := by rfl) (hr : ∀ w', S w' → (execOp a.eval oi).run P w' = .ok (.value v) w') (hS : S w)
  (ha : a.put (some N) v = a' := by simp only [Act.put, List.setIfInBounds_toArray, List.set_cons_zero, List.set_cons_succ]; rfl) (h : wpAnyLast P md ops Q S ds fuel (l.setIfInBounds i true) a' w) (hQ : ∀ c a w, Q (.panic c) (a.put oi.dst v) w → Q (.panic c) a w := by exact fun _ _ _ h => h) : wpAnyLast P md ops Q S ds (fuel + 1) l a w := take_ (l.setIfInBounds i true) hi hN (take_ofW hT.out hB.out hc) hQ (Or.inl ⟨hw, hr⟩) hS ha h
theorem boxE {W : World} (N : Tmp) (t : TypeId) (cs : Array Value) (h : ∀ g, g = W.heap.size → ∀ w1, w1.heap[g]? = some (.cells cs t (0, 0)) → Below W.heap.size W w1 → wpList P ops Q rest (a.put o.dst (.pointer (some ⟨g, 0, none⟩))) w1) (hd : o.dst = some N := by rfl) (hgd : o.guard = none := by rfl)
  (hrun : (execOp a.eval o).run P W = .ok (.value (.pointer (some ⟨W.heap.size, 0, none⟩))) (W.alloc (.cells cs t (0, 0))) := by first | (go_simp; done) | (go_simp; rfl)) : wpList P ops Q (o :: rest) a W := box_event hgd hd hrun h
theorem nz (d : Tmp) (h : wpAnyLast P md ops Q S ds fuel l a' w) (ha : a.put (some d) v = a' := by simp only [Act.put, List.setIfInBounds_toArray, List.set_cons_zero, List.set_cons_succ]; rfl) : wpAnyLast P md ops Q S ds fuel l (a.put (some d) v) w := norm_ ha h
end
abbrev Z16 : Array Value := #[.int .i64 0, .int .i64 0, .int .i64 0, .string ⟨#[]⟩, .bool false, .int .i64 0, .int .i64 0, .int .i64 0, .bool false, .bool false, .int .i64 0, .int .i64 0, .bool false, .bool false, .string ⟨#[]⟩, .slice none 0 0]
abbrev Z18 : Array Value := #[.int .i64 0, .int .i64 0, .int .i64 0, .string ⟨#[]⟩, .bool false, .int .i64 0, .int .i64 0, .int .i64 0, .bool false, .bool false, .int .i64 0, .int .i64 0, .bool false, .bool false, .string ⟨#[]⟩, .slice none 0 0, .int .i64 0, .bool false]
theorem drA {p : Prop} (h : p := by repeat (first | exact Drawn0.refl _ | apply Drawn0.step)) : p := h
theorem rflE {p : Prop} (h : p := by first | rfl | (simp [errW_none, errW_some] <;> rfl) | (simp [*, errW_none, errW_some] <;> rfl)) : p := h
theorem rflS {p : Prop} (h : p := by first | rfl | (simp; done) | (simp [*]; done)) : p := h
theorem put2 {w : World} {g : Nat} {t : TypeId} (a0 a1 : Value) {b0 b1 : Value} (h : w.heap[g]? = some (.cells #[a0, a1] t (0, 0))) : ((w.setCell ⟨g, 0, none⟩ b0).setCell ⟨g, 1, none⟩ b1).heap[g]? = some (.cells #[b0, b1] t (0, 0)) := by
  have h0 := blk_put h 0 b0 (cs' := #[b0, a1]) rfl
  have h1 := blk_put h0 1 b1 (cs' := #[b0, b1]) rfl
  exact h1
theorem put4 {w : World} {g : Nat} {t : TypeId} (a0 a1 a2 a3 : Value) {b0 b1 b2 b3 : Value} (h : w.heap[g]? = some (.cells #[a0, a1, a2, a3] t (0, 0))) : ((((w.setCell ⟨g, 0, none⟩ b0).setCell ⟨g, 1, none⟩ b1).setCell ⟨g, 2, none⟩ b2).setCell ⟨g, 3, none⟩ b3).heap[g]? = some (.cells #[b0, b1, b2, b3] t (0, 0)) := by
  have h0 := blk_put h 0 b0 (cs' := #[b0, a1, a2, a3]) rfl
  have h1 := blk_put h0 1 b1 (cs' := #[b0, b1, a2, a3]) rfl
  have h2 := blk_put h1 2 b2 (cs' := #[b0, b1, b2, a3]) rfl
  have h3 := blk_put h2 3 b3 (cs' := #[b0, b1, b2, b3]) rfl
  exact h3
theorem put5 {w : World} {g : Nat} {t : TypeId} (a0 a1 a2 a3 a4 : Value) {b0 b1 b2 b3 b4 : Value} (h : w.heap[g]? = some (.cells #[a0, a1, a2, a3, a4] t (0, 0))) : (((((w.setCell ⟨g, 0, none⟩ b0).setCell ⟨g, 1, none⟩ b1).setCell ⟨g, 2, none⟩ b2).setCell ⟨g, 3, none⟩ b3).setCell ⟨g, 4, none⟩ b4).heap[g]? = some (.cells #[b0, b1, b2, b3, b4] t (0, 0)) := by
  have h0 := blk_put h 0 b0 (cs' := #[b0, a1, a2, a3, a4]) rfl
  have h1 := blk_put h0 1 b1 (cs' := #[b0, b1, a2, a3, a4]) rfl
  have h2 := blk_put h1 2 b2 (cs' := #[b0, b1, b2, a3, a4]) rfl
  have h3 := blk_put h2 3 b3 (cs' := #[b0, b1, b2, b3, a4]) rfl
  have h4 := blk_put h3 4 b4 (cs' := #[b0, b1, b2, b3, b4]) rfl
  exact h4
theorem put6 {w : World} {g : Nat} {t : TypeId} (a0 a1 a2 a3 a4 a5 : Value) {b0 b1 b2 b3 b4 b5 : Value} (h : w.heap[g]? = some (.cells #[a0, a1, a2, a3, a4, a5] t (0, 0))) : ((((((w.setCell ⟨g, 0, none⟩ b0).setCell ⟨g, 1, none⟩ b1).setCell ⟨g, 2, none⟩ b2).setCell ⟨g, 3, none⟩ b3).setCell ⟨g, 4, none⟩ b4).setCell ⟨g, 5, none⟩ b5).heap[g]? = some (.cells #[b0, b1, b2, b3, b4, b5] t (0, 0)) := by
  have h0 := blk_put h 0 b0 (cs' := #[b0, a1, a2, a3, a4, a5]) rfl
  have h1 := blk_put h0 1 b1 (cs' := #[b0, b1, a2, a3, a4, a5]) rfl
  have h2 := blk_put h1 2 b2 (cs' := #[b0, b1, b2, a3, a4, a5]) rfl
  have h3 := blk_put h2 3 b3 (cs' := #[b0, b1, b2, b3, a4, a5]) rfl
  have h4 := blk_put h3 4 b4 (cs' := #[b0, b1, b2, b3, b4, a5]) rfl
  have h5 := blk_put h4 5 b5 (cs' := #[b0, b1, b2, b3, b4, b5]) rfl
  exact h5
theorem put12 {w : World} {g : Nat} {t : TypeId} (a0 a1 a2 a3 a4 a5 a6 a7 a8 a9 a10 a11 : Value) {b0 b1 b2 b3 b4 b5 b6 b7 b8 b9 b10 b11 : Value} (h : w.heap[g]? = some (.cells #[a0, a1, a2, a3, a4, a5, a6, a7, a8, a9, a10, a11] t (0, 0))) : ((((((((((((w.setCell ⟨g, 0, none⟩ b0).setCell ⟨g, 1, none⟩ b1).setCell ⟨g, 2, none⟩ b2).setCell ⟨g, 3, none⟩ b3).setCell ⟨g, 4, none⟩ b4).setCell ⟨g, 5, none⟩ b5).setCell ⟨g, 6, none⟩ b6).setCell ⟨g, 7, none⟩ b7).setCell ⟨g, 8, none⟩ b8).setCell ⟨g, 9, none⟩ b9).setCell ⟨g, 10, none⟩ b10).setCell ⟨g, 11, none⟩ b11).heap[g]? = some (.cells #[b0, b1, b2, b3, b4, b5, b6, b7, b8, b9, b10, b11] t (0, 0)) := by
  have h0 := blk_put h 0 b0 (cs' := #[b0, a1, a2, a3, a4, a5, a6, a7, a8, a9, a10, a11]) rfl
  have h1 := blk_put h0 1 b1 (cs' := #[b0, b1, a2, a3, a4, a5, a6, a7, a8, a9, a10, a11]) rfl
  have h2 := blk_put h1 2 b2 (cs' := #[b0, b1, b2, a3, a4, a5, a6, a7, a8, a9, a10, a11]) rfl
  have h3 := blk_put h2 3 b3 (cs' := #[b0, b1, b2, b3, a4, a5, a6, a7, a8, a9, a10, a11]) rfl
  have h4 := blk_put h3 4 b4 (cs' := #[b0, b1, b2, b3, b4, a5, a6, a7, a8, a9, a10, a11]) rfl
  have h5 := blk_put h4 5 b5 (cs' := #[b0, b1, b2, b3, b4, b5, a6, a7, a8, a9, a10, a11]) rfl
  have h6 := blk_put h5 6 b6 (cs' := #[b0, b1, b2, b3, b4, b5, b6, a7, a8, a9, a10, a11]) rfl
  have h7 := blk_put h6 7 b7 (cs' := #[b0, b1, b2, b3, b4, b5, b6, b7, a8, a9, a10, a11]) rfl
  have h8 := blk_put h7 8 b8 (cs' := #[b0, b1, b2, b3, b4, b5, b6, b7, b8, a9, a10, a11]) rfl
  have h9 := blk_put h8 9 b9 (cs' := #[b0, b1, b2, b3, b4, b5, b6, b7, b8, b9, a10, a11]) rfl
  have h10 := blk_put h9 10 b10 (cs' := #[b0, b1, b2, b3, b4, b5, b6, b7, b8, b9, b10, a11]) rfl
  have h11 := blk_put h10 11 b11 (cs' := #[b0, b1, b2, b3, b4, b5, b6, b7, b8, b9, b10, b11]) rfl
  exact h11
theorem far12 {w : World} {g : Nat} {p : Addr} {b0 b1 b2 b3 b4 b5 b6 b7 b8 b9 b10 b11 : Value} (hp : p.block ≠ g) : ((((((((((((w.setCell ⟨g, 0, none⟩ b0).setCell ⟨g, 1, none⟩ b1).setCell ⟨g, 2, none⟩ b2).setCell ⟨g, 3, none⟩ b3).setCell ⟨g, 4, none⟩ b4).setCell ⟨g, 5, none⟩ b5).setCell ⟨g, 6, none⟩ b6).setCell ⟨g, 7, none⟩ b7).setCell ⟨g, 8, none⟩ b8).setCell ⟨g, 9, none⟩ b9).setCell ⟨g, 10, none⟩ b10).setCell ⟨g, 11, none⟩ b11).cell? p = w.cell? p := (cell_far (p := ⟨g, 11, none⟩) hp b11).trans ((cell_far (p := ⟨g, 10, none⟩) hp b10).trans ((cell_far (p := ⟨g, 9, none⟩) hp b9).trans ((cell_far (p := ⟨g, 8, none⟩) hp b8).trans ((cell_far (p := ⟨g, 7, none⟩) hp b7).trans ((cell_far (p := ⟨g, 6, none⟩) hp b6).trans ((cell_far (p := ⟨g, 5, none⟩) hp b5).trans ((cell_far (p := ⟨g, 4, none⟩) hp b4).trans ((cell_far (p := ⟨g, 3, none⟩) hp b3).trans ((cell_far (p := ⟨g, 2, none⟩) hp b2).trans ((cell_far (p := ⟨g, 1, none⟩) hp b1).trans (cell_far (p := ⟨g, 0, none⟩) hp b0)))))))))))
theorem hbA {p : Prop} (h : p := by repeat (first | (with_reducible first | exact HB.out | apply bqA | apply bqN | apply bqD | refine below_set ?_ (Aside0.out (by assumption))) | exact HB.out)) : p := h
theorem argA {p : Prop} (h : p := by (try simp only [List.map_toArray, List.map_cons, List.map_nil]); first | done | rfl | (simp only [List.length_drop, List.length_take]; rfl) | (simp only [ByteArray.size_append, Int.natCast_add]; done) | (simp only [ByteArray.size_append, Int.natCast_add]; rfl) | (simp only [Array.mk.injEq, List.cons.injEq, Value.int.injEq, true_and, and_true]; (try simp only [mx, mn, wrap64] at *); omega)) : p := h
theorem bkA {p : Prop} (h : p := by (with_reducible repeat (first | refine bqZ ?_ _ | refine bqY ?_ | refine bqX ?_ _)); exact bk_) : p := h
theorem kA {p : Prop} (h : p := by first | (with_reducible assumption) | assumption) : p := h
theorem cellsA2 {W : World} {Z : Nat} {a b : Value} {T : TypeId} (H : W.heap[Z]? = some (.cells #[a, b] T (0, 0))) : W.cell? ⟨Z, 0, none⟩ = some a ∧ W.cell? ⟨Z, 1, none⟩ = some b := ⟨(blk_cell H 0).trans rfl, (blk_cell H 1).trans rfl⟩
theorem frozA2 {W : World} {Z : Nat} {a b : Value} {T : TypeId} (H : W.heap[Z]? = some (.cells #[a, b] T (0, 0))) : W.frozen? ⟨Z, 0, none⟩ = false ∧ W.frozen? ⟨Z, 1, none⟩ = false := ⟨blk_frozen H 0, blk_frozen H 1⟩
theorem cellsA4 {W : World} {Z : Nat} {a b c d : Value} {T : TypeId} (H : W.heap[Z]? = some (.cells #[a, b, c, d] T (0, 0))) : W.cell? ⟨Z, 0, none⟩ = some a ∧ W.cell? ⟨Z, 1, none⟩ = some b ∧ W.cell? ⟨Z, 2, none⟩ = some c ∧ W.cell? ⟨Z, 3, none⟩ = some d := ⟨(blk_cell H 0).trans rfl, (blk_cell H 1).trans rfl, (blk_cell H 2).trans rfl, (blk_cell H 3).trans rfl⟩
theorem frozA4 {W : World} {Z : Nat} {a b c d : Value} {T : TypeId} (H : W.heap[Z]? = some (.cells #[a, b, c, d] T (0, 0))) : W.frozen? ⟨Z, 0, none⟩ = false ∧ W.frozen? ⟨Z, 1, none⟩ = false ∧ W.frozen? ⟨Z, 2, none⟩ = false ∧ W.frozen? ⟨Z, 3, none⟩ = false := ⟨blk_frozen H 0, blk_frozen H 1, blk_frozen H 2, blk_frozen H 3⟩
theorem cellsA12 {W : World} {Z : Nat} {a b c d e f g h i j k l : Value} {T : TypeId} (H : W.heap[Z]? = some (.cells #[a, b, c, d, e, f, g, h, i, j, k, l] T (0, 0))) : W.cell? ⟨Z, 0, none⟩ = some a ∧ W.cell? ⟨Z, 1, none⟩ = some b ∧ W.cell? ⟨Z, 2, none⟩ = some c ∧ W.cell? ⟨Z, 3, none⟩ = some d ∧ W.cell? ⟨Z, 4, none⟩ = some e ∧ W.cell? ⟨Z, 5, none⟩ = some f ∧ W.cell? ⟨Z, 6, none⟩ = some g ∧ W.cell? ⟨Z, 7, none⟩ = some h ∧ W.cell? ⟨Z, 8, none⟩ = some i ∧ W.cell? ⟨Z, 9, none⟩ = some j ∧ W.cell? ⟨Z, 10, none⟩ = some k ∧ W.cell? ⟨Z, 11, none⟩ = some l := ⟨(blk_cell H 0).trans rfl, (blk_cell H 1).trans rfl, (blk_cell H 2).trans rfl, (blk_cell H 3).trans rfl, (blk_cell H 4).trans rfl, (blk_cell H 5).trans rfl, (blk_cell H 6).trans rfl, (blk_cell H 7).trans rfl, (blk_cell H 8).trans rfl, (blk_cell H 9).trans rfl, (blk_cell H 10).trans rfl, (blk_cell H 11).trans rfl⟩
theorem frozA12 {W : World} {Z : Nat} {a b c d e f g h i j k l : Value} {T : TypeId} (H : W.heap[Z]? = some (.cells #[a, b, c, d, e, f, g, h, i, j, k, l] T (0, 0))) : W.frozen? ⟨Z, 0, none⟩ = false ∧ W.frozen? ⟨Z, 1, none⟩ = false ∧ W.frozen? ⟨Z, 2, none⟩ = false ∧ W.frozen? ⟨Z, 3, none⟩ = false ∧ W.frozen? ⟨Z, 4, none⟩ = false ∧ W.frozen? ⟨Z, 5, none⟩ = false ∧ W.frozen? ⟨Z, 6, none⟩ = false ∧ W.frozen? ⟨Z, 7, none⟩ = false ∧ W.frozen? ⟨Z, 8, none⟩ = false ∧ W.frozen? ⟨Z, 9, none⟩ = false ∧ W.frozen? ⟨Z, 10, none⟩ = false ∧ W.frozen? ⟨Z, 11, none⟩ = false := ⟨blk_frozen H 0, blk_frozen H 1, blk_frozen H 2, blk_frozen H 3, blk_frozen H 4, blk_frozen H 5, blk_frozen H 6, blk_frozen H 7, blk_frozen H 8, blk_frozen H 9, blk_frozen H 10, blk_frozen H 11⟩
theorem cellsA16 {W : World} {Z : Nat} {a b c d e f g h i j k l m n o p : Value} {T : TypeId} (H : W.heap[Z]? = some (.cells #[a, b, c, d, e, f, g, h, i, j, k, l, m, n, o, p] T (0, 0))) : W.cell? ⟨Z, 0, none⟩ = some a ∧ W.cell? ⟨Z, 1, none⟩ = some b ∧ W.cell? ⟨Z, 2, none⟩ = some c ∧ W.cell? ⟨Z, 3, none⟩ = some d ∧ W.cell? ⟨Z, 4, none⟩ = some e ∧ W.cell? ⟨Z, 5, none⟩ = some f ∧ W.cell? ⟨Z, 6, none⟩ = some g ∧ W.cell? ⟨Z, 7, none⟩ = some h ∧ W.cell? ⟨Z, 8, none⟩ = some i ∧ W.cell? ⟨Z, 9, none⟩ = some j ∧ W.cell? ⟨Z, 10, none⟩ = some k ∧ W.cell? ⟨Z, 11, none⟩ = some l ∧ W.cell? ⟨Z, 12, none⟩ = some m ∧ W.cell? ⟨Z, 13, none⟩ = some n ∧ W.cell? ⟨Z, 14, none⟩ = some o ∧ W.cell? ⟨Z, 15, none⟩ = some p := ⟨(blk_cell H 0).trans rfl, (blk_cell H 1).trans rfl, (blk_cell H 2).trans rfl, (blk_cell H 3).trans rfl, (blk_cell H 4).trans rfl, (blk_cell H 5).trans rfl, (blk_cell H 6).trans rfl, (blk_cell H 7).trans rfl, (blk_cell H 8).trans rfl, (blk_cell H 9).trans rfl, (blk_cell H 10).trans rfl, (blk_cell H 11).trans rfl, (blk_cell H 12).trans rfl, (blk_cell H 13).trans rfl, (blk_cell H 14).trans rfl, (blk_cell H 15).trans rfl⟩
theorem frozA16 {W : World} {Z : Nat} {a b c d e f g h i j k l m n o p : Value} {T : TypeId} (H : W.heap[Z]? = some (.cells #[a, b, c, d, e, f, g, h, i, j, k, l, m, n, o, p] T (0, 0))) : W.frozen? ⟨Z, 0, none⟩ = false ∧ W.frozen? ⟨Z, 1, none⟩ = false ∧ W.frozen? ⟨Z, 2, none⟩ = false ∧ W.frozen? ⟨Z, 3, none⟩ = false ∧ W.frozen? ⟨Z, 4, none⟩ = false ∧ W.frozen? ⟨Z, 5, none⟩ = false ∧ W.frozen? ⟨Z, 6, none⟩ = false ∧ W.frozen? ⟨Z, 7, none⟩ = false ∧ W.frozen? ⟨Z, 8, none⟩ = false ∧ W.frozen? ⟨Z, 9, none⟩ = false ∧ W.frozen? ⟨Z, 10, none⟩ = false ∧ W.frozen? ⟨Z, 11, none⟩ = false ∧ W.frozen? ⟨Z, 12, none⟩ = false ∧ W.frozen? ⟨Z, 13, none⟩ = false ∧ W.frozen? ⟨Z, 14, none⟩ = false ∧ W.frozen? ⟨Z, 15, none⟩ = false := ⟨blk_frozen H 0, blk_frozen H 1, blk_frozen H 2, blk_frozen H 3, blk_frozen H 4, blk_frozen H 5, blk_frozen H 6, blk_frozen H 7, blk_frozen H 8, blk_frozen H 9, blk_frozen H 10, blk_frozen H 11, blk_frozen H 12, blk_frozen H 13, blk_frozen H 14, blk_frozen H 15⟩
theorem eqA37 (d : Nat) (w : World) (x0 y0 : Int) (x1 y1 : Int) (x2 y2 : ByteArray) (x3 y3 : Bool) (x4 y4 : Int) :
  (Op.equalIn (d + 2) 37 (.agg #[.int .i64 x0, .int .i64 x1, .string x2, .bool x3, .int .i64 x4]) (.agg #[.int .i64 y0, .int .i64 y1, .string y2, .bool y3, .int .i64 y4])).run Tryz.prog w = .ok (x0 == y0 && (x1 == y1 && (x2.toList == y2.toList && (x3 == y3 && (x4 == y4))))) w := by
 refine eqA_of Tryz.underlying37 (by kernel_rfl) ?_
 refine eqf_cons (by rfl) (by go_simp; rfl) (by go_simp; rfl) (by go_simp) ?_
 refine eqf_cons (by rfl) (by go_simp; rfl) (by go_simp; rfl) (by go_simp) ?_
 refine eqf_cons (by rfl) (by go_simp; rfl) (by go_simp; rfl) (by go_simp) ?_
 refine eqf_cons (by rfl) (by go_simp; rfl) (by go_simp; rfl) (by go_simp) ?_
 exact eqf_last (by rfl) (by go_simp; rfl) (by go_simp; rfl) (by go_simp)
theorem eqA58 (d : Nat) (w : World) (x0 y0 : Int) (x1 y1 : Int) (x2 y2 : Int) (x3 y3 : Int) :
  (Op.equalIn (d + 2) 58 (.agg #[.int .i64 x0, .int .i64 x1, .int .i64 x2, .int .i64 x3]) (.agg #[.int .i64 y0, .int .i64 y1, .int .i64 y2, .int .i64 y3])).run Tryz.prog w = .ok (x0 == y0 && (x1 == y1 && (x2 == y2 && (x3 == y3)))) w := by
 refine eqA_of Tryz.underlying58 (by kernel_rfl) ?_
 refine eqf_cons (by rfl) (by go_simp; rfl) (by go_simp; rfl) (by go_simp) ?_
 refine eqf_cons (by rfl) (by go_simp; rfl) (by go_simp; rfl) (by go_simp) ?_
 refine eqf_cons (by rfl) (by go_simp; rfl) (by go_simp; rfl) (by go_simp) ?_
 exact eqf_last (by rfl) (by go_simp; rfl) (by go_simp; rfl) (by go_simp)
def foolscapref05_dollar.f (a0 : ByteArray) : Option (ByteArray × Bool) := if (a0.size : Int) > 0 then (if 0 < (a0.size : Int) then (if (bt a0 0) = 36 then (if 1 ≤ (a0.size : Int) then (some (a0.extract 1 a0.size, true)) else (none)) else (some (a0, false))) else (none)) else (some (a0, false))
theorem foolscapref05_dollar.calls (a0 : ByteArray) (r1 : ByteArray) (r2 : Bool) (w : World) (h : foolscapref05_dollar.f a0 = some (r1, r2)) :
  Calls Tryz.prog 143 #[.string a0] w fun e w' => e = .returned (.tuple #[.string r1, .bool r2]) ∧ Drawn0 w w' := by
 have H : (if (a0.size : Int) > 0 then (if 0 < (a0.size : Int) then (if (bt a0 0) = 36 then (if 1 ≤ (a0.size : Int) then (some (a0.extract 1 a0.size, true)) else (none)) else (some (a0, false))) else (none)) else (some (a0, false))) = some (r1, r2) := h
 clear h
 by_cases c2 : (a0.size : Int) > 0
 ·rw [if_pos c2] at H
  have c2b0 : decide (0 < (a0.size : Int)) = true := decide_eq_true c2
  have c2b1 : decide (0 < a0.size) = true := decide_eq_true (by omega)
  clear c2
  by_cases c3 : 0 < (a0.size : Int)
  ·rw [if_pos c3] at H
   have c3b0 : decide (0 < (a0.size : Int)) = true := decide_eq_true c3
   have c3b1 : decide (0 < a0.size) = true := decide_eq_true (by omega)
   clear c3
   by_cases c5 : (bt a0 0) = 36
   ·rw [if_pos c5] at H
    have c5b0 : ((bt a0 0) == 36) = true := beq_iff_eq.mpr c5
    have c5b1 : ((bt a0 0) != 36) = false := bne_eq_false_iff_eq.mpr c5
    clear c5
    by_cases c6 : 1 ≤ (a0.size : Int)
    ·rw [if_pos c6] at H
     have c6b0 := eq_true c6
     have c6b1 : decide (1 ≤ (a0.size : Int)) = true := decide_eq_true c6
     clear c6
     simp only [Option.some.injEq, Prod.mk.injEq] at H
     obtain ⟨rfl, rfl⟩ := H
     have p4 : 0 ≤ (0 : Int) := (by omega)
     have q4 : 0 < a0.size := (by have : (0 : Int) < (a0.size : Int) := of_decide_eq_true kA; omega)
     have hx4 : ∀ h : 0 < a0.size, ((a0[0]'h).toNat : Int) = bt a0 0 := bt_at a0 0
     clear p4
     have qi4 : (0 < (a0.size : Int)) = True := eq_true (of_decide_eq_true kA)
     replace q4 := eq_true q4
     go_enter Tryz.func143, Tryz.ntmps143
     go_wp2
     go_ret2
     exact ⟨rflS, drA⟩
    ·rw [if_neg c6] at H
     exact absurd H (by simp)
   ·rw [if_neg c5] at H
    have c5b0 : ((bt a0 0) == 36) = false := beq_eq_false_iff_ne.mpr c5
    have c5b1 : ((bt a0 0) != 36) = true := bne_iff_ne.mpr c5
    simp only [Option.some.injEq, Prod.mk.injEq] at H
    obtain ⟨rfl, rfl⟩ := H
    have p4 : 0 ≤ (0 : Int) := (by omega)
    have q4 : 0 < a0.size := (by have : (0 : Int) < (a0.size : Int) := of_decide_eq_true kA; omega)
    have hx4 : ∀ h : 0 < a0.size, ((a0[0]'h).toNat : Int) = bt a0 0 := bt_at a0 0
    clear p4
    have qi4 : (0 < (a0.size : Int)) = True := eq_true (of_decide_eq_true kA)
    replace q4 := eq_true q4
    go_enter Tryz.func143, Tryz.ntmps143
    go_wp2
    go_ret2
    exact ⟨rflS, drA⟩
  ·rw [if_neg c3] at H
   exact absurd H (by simp)
 ·rw [if_neg c2] at H
  have c2b0 : decide (0 < (a0.size : Int)) = false := decide_eq_false c2
  have c2b1 : decide (0 < a0.size) = false := decide_eq_false (by omega)
  clear c2
  simp only [Option.some.injEq, Prod.mk.injEq] at H
  obtain ⟨rfl, rfl⟩ := H
  go_enter Tryz.func143, Tryz.ntmps143
  go_wp2
  go_ret2
  exact ⟨rflS, drA⟩
def foolscapref05_letter.j0 : Nat → Int → Bool → Option (Int)
 | 0, _, _ => none
 | k + 1, x0, x8 => if x8 = true then (some (((x0 - 65) % 256) + 1)) else (if x0 ≥ 97 then (if x0 ≤ 122 then (some (((x0 - 97) % 256) + 1)) else (some 0)) else (some 0))
def foolscapref05_letter.f (k : Nat) (a0 : Int) : Option (Int) := if a0 ≥ 65 then (foolscapref05_letter.j0 k a0 (decide (a0 ≤ 90))) else (foolscapref05_letter.j0 k a0 false)
theorem foolscapref05_letter.calls (k : Nat) (a0 : Int) (r : Int) (w : World) (h : foolscapref05_letter.f k a0 = some r) :
  Calls Tryz.prog 144 #[.int .u8 a0] w fun e w' => e = .returned (.int .i64 r) ∧ Drawn0 w w' := by
 have H : (if a0 ≥ 65 then (foolscapref05_letter.j0 k a0 (decide (a0 ≤ 90))) else (foolscapref05_letter.j0 k a0 false)) = some r := h
 clear h
 have HC2 := Aside0.mk H
 clear H
 go_enter Tryz.func144, Tryz.ntmps144
 go_upto_region 1 with (fail)
 go_cut [8] (fun v8 wc => ∃ (kq : Nat) (x8_1 : Bool), v8 = .bool x8_1 ∧ Aside0 (foolscapref05_letter.j0 kq a0 x8_1 = some r) ∧ Aside0 (kq ≤ k) ∧ Drawn0 w wc)
 case first =>
  have H := HC2.out
  clear HC2
  by_cases c3 : a0 ≥ 65
  ·rw [if_pos c3] at H
   have c3b0 : decide (65 ≤ a0) = true := decide_eq_true c3
   clear c3
   (first | rw [c3b0] | (simp only [i64_w, i32_w]; rw [c3b0]) | skip)
   have H' := Aside0.mk H
   clear H
   go_wp2
   go_meet
   case rel => exact ⟨_, (decide (a0 ≤ 90)), (rflS), H', ⟨by first | omega | exact Nat.le_refl _⟩, drA⟩
  ·rw [if_neg c3] at H
   have c3b0 : decide (65 ≤ a0) = false := decide_eq_false c3
   clear c3
   (first | rw [c3b0] | (simp only [i64_w, i32_w]; rw [c3b0]) | skip)
   have H' := Aside0.mk H
   clear H
   go_wp2
   go_meet
   case rel => exact ⟨_, (false), (rflS), H', ⟨by first | omega | exact Nat.le_refl _⟩, drA⟩
 case rest =>
  clear HC2
  try clear c1
  try clear p2
  try clear c3
  try clear c3b0
  obtain ⟨kq, x8_1, rfl, HA, HJ1, ⟨mc1, rfl⟩⟩ := hcut
  cases kq with
  | zero => exact absurd HA.out (by simp [foolscapref05_letter.j0])
  | succ kj1 =>
   have H := HA.out
   clear HA
   simp only [foolscapref05_letter.j0] at H
   by_cases c4 : x8_1 = true
   ·subst c4
    have H1 : (some (((a0 - 65) % 256) + 1)) = some r := by rw [if_pos rfl] at H; exact H
    clear H
    have H := H1
    clear H1
    obtain rfl := Option.some.inj H
    go_wp2
    go_ret
    exact ⟨rflS, drA⟩
   ·replace c4 := Bool.eq_false_iff.mpr c4
    subst c4
    have H1 : (if a0 ≥ 97 then (if a0 ≤ 122 then (some (((a0 - 97) % 256) + 1)) else (some 0)) else (some 0)) = some r := by rw [if_neg (show ¬ (false = true) by decide)] at H; exact H
    clear H
    have H := H1
    clear H1
    by_cases c5 : a0 ≥ 97
    ·rw [if_pos c5] at H
     have c5b0 : decide (97 ≤ a0) = true := decide_eq_true c5
     clear c5
     by_cases c6 : a0 ≤ 122
     ·rw [if_pos c6] at H
      have c6b0 : decide (a0 ≤ 122) = true := decide_eq_true c6
      clear c6
      obtain rfl := Option.some.inj H
      go_wp2
      go_ret
      exact ⟨rflS, drA⟩
     ·rw [if_neg c6] at H
      have c6b0 : decide (a0 ≤ 122) = false := decide_eq_false c6
      clear c6
      obtain rfl := Option.some.inj H
      go_wp2
      go_ret
      exact ⟨rflS, drA⟩
    ·rw [if_neg c5] at H
     have c5b0 : decide (97 ≤ a0) = false := decide_eq_false c5
     clear c5
     obtain rfl := Option.some.inj H
     go_wp2
     go_ret
     exact ⟨rflS, drA⟩
mutual
def foolscapref05_Column.j0 : Nat → ByteArray → Bool → Option (Int × Int)
 | 0, _, _ => none
 | k + 1, x0, x13 => if x13 = true then (some (0, 5)) else (foolscapref05_Column.l0 k x0 0 0)
def foolscapref05_Column.l0 : Nat → ByteArray → Int → Int → Option (Int × Int)
 | 0, _, _, _ => none
 | k + 1, x0, x4, x5 => if x5 < (x0.size : Int) then (if 0 ≤ x5 then ((foolscapref05_letter.f k (bt x0 x5)).bind fun t153 => (if t153 = 0 then (some (0, 5)) else ((foolscapref05_letter.f k (bt x0 x5)).bind fun t154 => (foolscapref05_Column.l0 k x0 (wrap64 ((wrap64 (26 * x4)) + t154)) (wrap64 (x5 + 1)))))) else (none)) else (if x4 > 16384 then (some (0, 11)) else (some (x4, 0)))
end
def foolscapref05_Column.f (k : Nat) (a0 : ByteArray) : Option (Int × Int) := if (a0.size : Int) = 0 then (foolscapref05_Column.j0 k a0 true) else (foolscapref05_Column.j0 k a0 (decide ((a0.size : Int) > 3)))
theorem foolscapref05_Column.calls (k : Nat) (a0 : ByteArray) (r1 : Int) (r2 : Int) (w : World) (h : foolscapref05_Column.f k a0 = some (r1, r2)) :
  Calls Tryz.prog 145 #[.string a0] w fun e w' => e = .returned (.tuple #[.int .i64 r1, .int .i64 r2]) ∧ Drawn0 w w' := by
 have H : (if (a0.size : Int) = 0 then (foolscapref05_Column.j0 k a0 true) else (foolscapref05_Column.j0 k a0 (decide ((a0.size : Int) > 3)))) = some (r1, r2) := h
 clear h
 have HC2 := Aside0.mk H
 clear H
 go_enter Tryz.func145, Tryz.ntmps145
 go_upto_region 1 with (fail)
 go_cut [13] (fun v13 wc => ∃ (kq : Nat) (x13_1 : Bool), v13 = .bool x13_1 ∧ Aside0 (foolscapref05_Column.j0 kq a0 x13_1 = some (r1, r2)) ∧ Aside0 (kq ≤ k) ∧ Drawn0 w wc)
 case first =>
  have H := HC2.out
  clear HC2
  by_cases c3 : (a0.size : Int) = 0
  ·rw [if_pos c3] at H
   have c3b0 : ((a0.size : Int) == 0) = true := beq_iff_eq.mpr c3
   have c3b1 : ((a0.size : Int) != 0) = false := bne_eq_false_iff_eq.mpr c3
   clear c3
   (first | rw [c3b0] | (simp only [i64_w, i32_w]; rw [c3b0]) | skip)
   have H' := Aside0.mk H
   clear H
   go_wp2
   go_meet
   case rel => exact ⟨_, (true), (rflS), H', ⟨by first | omega | exact Nat.le_refl _⟩, drA⟩
  ·rw [if_neg c3] at H
   have c3b0 : ((a0.size : Int) == 0) = false := beq_eq_false_iff_ne.mpr c3
   have c3b1 : ((a0.size : Int) != 0) = true := bne_iff_ne.mpr c3
   (first | rw [c3b0] | (simp only [i64_w, i32_w]; rw [c3b0]) | skip)
   have H' := Aside0.mk H
   clear H
   go_wp2
   go_meet
   case rel => exact ⟨_, (decide ((a0.size : Int) > 3)), (rflS), H', ⟨by first | omega | exact Nat.le_refl _⟩, drA⟩
 case rest =>
  clear HC2
  try clear c1
  try clear p2
  try clear c3
  try clear c3b0
  try clear c3b1
  obtain ⟨kq, x13_1, rfl, HA, HJ1, ⟨mc1, rfl⟩⟩ := hcut
  cases kq with
  | zero => exact absurd HA.out (by simp [foolscapref05_Column.j0])
  | succ kj1 =>
   have H := HA.out
   clear HA
   simp only [foolscapref05_Column.j0] at H
   by_cases c4 : x13_1 = true
   ·subst c4
    have H1 : (some (0, 5)) = some (r1, r2) := by rw [if_pos rfl] at H; exact H
    clear H
    have H := H1
    clear H1
    simp only [Option.some.injEq, Prod.mk.injEq] at H
    obtain ⟨rfl, rfl⟩ := H
    go_wp2
    go_ret2
    exact ⟨rflS, drA⟩
   ·replace c4 := Bool.eq_false_iff.mpr c4
    subst c4
    have H1 : (foolscapref05_Column.l0 kj1 a0 0 0) = some (r1, r2) := by rw [if_neg (show ¬ (false = true) by decide)] at H; exact H
    clear H
    have H := H1
    clear H1
    have H' := Aside0.mk H
    clear H
    go_wp2
    go_loopg [4, 5] kj1 (fun kq v4 v5 w' => ∃ (x4_2 : Int) (x5_2 : Int), v4 = .int .i64 x4_2 ∧ v5 = .int .i64 x5_2 ∧ Aside0 (foolscapref05_Column.l0 kq a0 x4_2 x5_2 = some (r1, r2)) ∧ Aside0 (kq ≤ kj1) ∧ Drawn0 w w')
    case atStart => exact ⟨(0), (0), (rflS), (rflS), H', ⟨Nat.le_refl _⟩, drA⟩
    case round =>
     clear H'
     try clear c1
     try clear p2
     try clear c3
     try clear c3b0
     try clear c3b1
     try clear c4
     try clear p2
     obtain ⟨x4_2, x5_2, rfl, rfl, HA, HK2, ⟨m2, rfl⟩⟩ := hrel
     cases gk with
     | zero => exact absurd HA.out (by simp [foolscapref05_Column.l0])
     | succ k2 =>
      have H := HA.out
      clear HA
      simp only [foolscapref05_Column.l0] at H
      by_cases c5 : x5_2 < (a0.size : Int)
      ·rw [if_pos c5] at H
       have c5b0 : decide (x5_2 < (a0.size : Int)) = true := decide_eq_true c5
       clear c5
       by_cases c6 : 0 ≤ x5_2
       ·rw [if_pos c6] at H
        have c6b0 : decide (0 ≤ x5_2) = true := decide_eq_true c6
        clear c6
        replace H := Option.bind_eq_some_iff.mp H
        obtain ⟨t153, A80, H⟩ := H
        replace H : (if t153 = 0 then (some (0, 5)) else ((foolscapref05_letter.f k2 (bt a0 x5_2)).bind fun t154 => (foolscapref05_Column.l0 k2 a0 (wrap64 ((wrap64 (26 * x4_2)) + t154)) (wrap64 (x5_2 + 1))))) = some (r1, r2) := H
        have A8 := Aside0.mk A80
        clear A80
        by_cases c9 : t153 = 0
        ·rw [if_pos c9] at H
         have c9b0 : (t153 == 0) = true := beq_iff_eq.mpr c9
         have c9b1 : (t153 != 0) = false := bne_eq_false_iff_eq.mpr c9
         clear c9
         simp only [Option.some.injEq, Prod.mk.injEq] at H
         obtain ⟨rfl, rfl⟩ := H
         have p7 : 0 ≤ (x5_2 : Int) := of_decide_eq_true kA
         have q7 : x5_2 < (a0.size : Int) := of_decide_eq_true kA
         have hx7 := bt_at a0 x5_2
         replace p7 := eq_true p7
         replace q7 := eq_true q7
         go_wp2_with (first | ((with_reducible refine gate_callee (f := 144) rfl ?_); refine goesL_ (some 23) rfl rfl Tryz.func144 (by kernel_rfl) rfl #[.int .u8 (bt a0 x5_2)] rfl argA ?_; (with_reducible refine (foolscapref05_letter.calls k2 (bt a0 x5_2) t153 _ A8.out).mono ?_); rintro e w' ⟨rfl, ⟨nd, rfl⟩⟩; refine ⟨_, rfl, ?_⟩))
         go_ret2
         exact ⟨rflS, drA⟩
        ·rw [if_neg c9] at H
         have c9b0 : (t153 == 0) = false := beq_eq_false_iff_ne.mpr c9
         have c9b1 : (t153 != 0) = true := bne_iff_ne.mpr c9
         replace H := Option.bind_eq_some_iff.mp H
         obtain ⟨t154, A110, H⟩ := H
         replace H : (foolscapref05_Column.l0 k2 a0 (wrap64 ((wrap64 (26 * x4_2)) + t154)) (wrap64 (x5_2 + 1))) = some (r1, r2) := H
         have A11 := Aside0.mk A110
         clear A110
         have H' := Aside0.mk H
         clear H
         have p7 : 0 ≤ (x5_2 : Int) := of_decide_eq_true kA
         have q7 : x5_2 < (a0.size : Int) := of_decide_eq_true kA
         have hx7 := bt_at a0 x5_2
         replace p7 := eq_true p7
         replace q7 := eq_true q7
         go_wp2_with (first | ((with_reducible refine gate_callee (f := 144) rfl ?_); refine goesL_ (some 23) rfl rfl Tryz.func144 (by kernel_rfl) rfl #[.int .u8 (bt a0 x5_2)] rfl argA ?_; (with_reducible refine (foolscapref05_letter.calls k2 (bt a0 x5_2) t153 _ A8.out).mono ?_); rintro e w' ⟨rfl, ⟨nd, rfl⟩⟩; refine ⟨_, rfl, ?_⟩; have p10 : 0 ≤ (x5_2 : Int) := of_decide_eq_true kA; have q10 : x5_2 < (a0.size : Int) := of_decide_eq_true kA; have hx10 := bt_at a0 x5_2; replace p10 := eq_true p10; replace q10 := eq_true q10) | ((with_reducible refine gate_callee (f := 144) rfl ?_); refine goesL_ (some 30) rfl rfl Tryz.func144 (by kernel_rfl) rfl #[.int .u8 (bt a0 x5_2)] rfl argA ?_; (with_reducible refine (foolscapref05_letter.calls k2 (bt a0 x5_2) t154 _ A11.out).mono ?_); rintro e w' ⟨rfl, ⟨nd, rfl⟩⟩; refine ⟨_, rfl, ?_⟩))
         go_roundg k2
         case measure => have := HJ1.out; have := HK2.out; omega
         case rel => exact ⟨(wrap64 ((wrap64 (26 * x4_2)) + t154)), (wrap64 (x5_2 + 1)), (rflS), (rflS), H', ⟨by have := HJ1.out; have := HK2.out; omega⟩, drA⟩
       ·rw [if_neg c6] at H
        exact absurd H (by simp)
      ·rw [if_neg c5] at H
       have c5b0 : decide (x5_2 < (a0.size : Int)) = false := decide_eq_false c5
       clear c5
       by_cases c12 : x4_2 > 16384
       ·rw [if_pos c12] at H
        have c12b0 : decide (16384 < x4_2) = true := decide_eq_true c12
        clear c12
        simp only [Option.some.injEq, Prod.mk.injEq] at H
        obtain ⟨rfl, rfl⟩ := H
        go_wp2
        go_ret2
        exact ⟨rflS, drA⟩
       ·rw [if_neg c12] at H
        have c12b0 : decide (16384 < x4_2) = false := decide_eq_false c12
        clear c12
        simp only [Option.some.injEq, Prod.mk.injEq] at H
        obtain ⟨rfl, rfl⟩ := H
        go_wp2
        go_ret2
        exact ⟨rflS, drA⟩
theorem eqA39 (d : Nat) (w : World) (x0 y0 : Int) (x1 y1 : Int) :
  (Op.equalIn (d + 2) 39 (.agg #[.int .i64 x0, .int .i64 x1]) (.agg #[.int .i64 y0, .int .i64 y1])).run Tryz.prog w = .ok (x0 == y0 && (x1 == y1)) w := by
 refine eqA_of Tryz.underlying39 (by kernel_rfl) ?_
 refine eqf_cons (by rfl) (by go_simp; rfl) (by go_simp; rfl) (by go_simp) ?_
 exact eqf_last (by rfl) (by go_simp; rfl) (by go_simp; rfl) (by go_simp)
theorem eqA41 (d : Nat) (w : World) (x0 y0 : Int) (x1 y1 : Int) (x2 y2 : Bool) (x3 y3 : Bool) :
  (Op.equalIn (d + 3) 41 (.agg #[.int .i64 x0, .int .i64 x1, .bool x2, .bool x3]) (.agg #[.int .i64 y0, .int .i64 y1, .bool y2, .bool y3])).run Tryz.prog w = .ok ((x0 == y0 && (x1 == y1)) && (x2 == y2 && (x3 == y3))) w := by
 refine eqA_of Tryz.underlying41 (by kernel_rfl) ?_
 refine eqf_cons (by rfl) (by go_simp) (by go_simp) (eqA39 (d + 0) w _ _ _ _) ?_
 refine eqf_cons (by rfl) (by go_simp; rfl) (by go_simp; rfl) (by go_simp) ?_
 exact eqf_last (by rfl) (by go_simp; rfl) (by go_simp; rfl) (by go_simp)
end Go.Proofs.YtopdjokncbpghaaGreatDoor.Pr
end
