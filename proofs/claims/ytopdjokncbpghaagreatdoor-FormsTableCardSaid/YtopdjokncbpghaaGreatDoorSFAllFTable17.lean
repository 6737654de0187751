/-
  Lemmas for the law FAllFTable.
-/
import Derived.Test.YtopdjokncbpghaaGreatDoorSFAllFTable0
import Derived.Below
import Derived.KernelRfl
import Derived.LaidLaws
import Derived.Lib.ItoaNum
import Derived.Lib.LaidTab
import Derived.Lib.LaidU8
import Derived.Lib.Space
import Derived.Test.YtopdjokncbpghaaGreatDoorProg
import Derived.WalkKit
set_option maxHeartbeats 8000000
set_option maxRecDepth 100000
set_option linter.unusedVariables false
set_option linter.unusedSimpArgs false
section
namespace Go.Proofs.YtopdjokncbpghaaGreatDoor.Pr
open Go.RowKit Go.Proofs.YtopdjokncbpghaaGreatDoorW.PrintWords
theorem gAscii : Tryz.prog.globalNamed "strings.asciiSpace" = some 0 := by kernel_rfl
theorem gPow10 : Tryz.prog.globalNamed "internal/strconv.uint64pow10" = some 4 := by kernel_rfl
structure LaidW (w : World) : Prop where mk ::
 (pow10 : Lib.TabIs Tryz.prog w "internal/strconv.uint64pow10" .u64 Lib.pow10Tab)
 (ascii : Lib.TabIs Tryz.prog w "strings.asciiSpace" .u8 Lib.asciiSpaceTab)
theorem var_below {P : Program} {B g : Nat} {W W' : World} {n : String} {cs : Array Value} (h : Below B W W') (hg : P.globalNamed n = some g) (hgB : g < B) (hv : W.var? P n = some cs) : W'.var? P n = some cs := by
 unfold World.var? at hv ⊢
 simp only [hg, Option.bind_some] at hv ⊢
 rw [h.block g hgB]
 exact hv
theorem tab_of_reads {P : Program} {W : World} {name : String} {k : IntKind} {zs : List Int} {g : Nat} {t e : TypeId} {n : Nat}
  (hg : P.globalNamed name = some g) (hty : (P.globals[g]?).map (·.type) = some t) (ht : P.underlying t = some (.array n e)) (he : P.underlying e = some (.int k)) (hce : P.cellsOf e = 1) (hct : P.cellsOf t = n)
  (h : Lib.VarReads P W name (Lib.tabData k zs)) : Lib.TabIs P W name k zs := by
 obtain ⟨g', t', cs, fuel, p, hg', ht', hvar, hd⟩ := h
 obtain rfl := Option.some.inj (hg.symm.trans hg')
 obtain rfl := Option.some.inj (hty.symm.trans ht')
 unfold Lib.TabIs
 rw [hvar, ← Lib.cells_of_tab ht he hce hct hd]
theorem pow10_of_reads {W : World} {d : DataW Unit} (h : Lib.VarReads Tryz.prog W "internal/strconv.uint64pow10" d) (hd : d = Lib.tabData .u64 Lib.pow10Tab) : Lib.TabIs Tryz.prog W "internal/strconv.uint64pow10" .u64 Lib.pow10Tab := by
 subst hd
 exact tab_of_reads gPow10 (show (Tryz.prog.globals[4]?).map (·.type) = some 207 by kernel_rfl) Tryz.underlying207 Tryz.underlying161 (by kernel_rfl) (by kernel_rfl) h
theorem ascii_of_reads {W : World} {d : DataW Unit} (h : Lib.VarReads Tryz.prog W "strings.asciiSpace" d) (hd : d = Lib.tabData .u8 Lib.asciiSpaceTab) : Lib.TabIs Tryz.prog W "strings.asciiSpace" .u8 Lib.asciiSpaceTab := by
 subst hd
 exact tab_of_reads gAscii (show (Tryz.prog.globals[0]?).map (·.type) = some 90 by kernel_rfl) Tryz.underlying90 Tryz.underlying5 (by kernel_rfl) (by kernel_rfl) h
theorem LaidW.below {w w1 : World} (h : LaidW w) (hb : Below w.heap.size w w1) : LaidW w1 := by
 have hc := h.pow10.cell gPow10 0 (by decide)
 have hg : 4 < w.heap.size := World.block_lt_of_cell? w _ hc
 have hc2 := h.ascii.cell gAscii 0 (by decide +kernel)
 have hg2 : 0 < w.heap.size := World.block_lt_of_cell? w _ hc2
 exact ⟨var_below hb gPow10 hg h.pow10, var_below hb gAscii hg2 h.ascii⟩
theorem LaidAt {w w1 : World} (h : Aside0 (LaidW w)) (hb : Below w.heap.size w w1) : Aside0 (LaidW w1) := ⟨h.out.below hb⟩
def runsB : List Nat → Nat → Nat → List MemPlace → Bool
 | _, _, _, [] => true
 | seen, b, o, .cell b' o' :: r => if b' = b then decide (o < o') && runsB seen b o' r else !(seen.contains b') && runsB (b :: seen) b' o' r
 | _, _, _, _ :: _ => false
theorem runsB_nodup : ∀ (ps : List MemPlace) (seen : List Nat) (b o : Nat), b ∉ seen → runsB seen b o ps = true → (∀ x ∈ ps, ∃ b' o', x = .cell b' o' ∧ b' ∉ seen ∧ (b' = b → o < o')) ∧ ps.Nodup
 | [], seen, b, o, _, _ => ⟨(fun x hx => by cases hx), List.nodup_nil⟩
 | .cell b' o' :: r, seen, b, o, hs0, h => by
  unfold runsB at h
  by_cases hb : b' = b
  ·rw [if_pos hb, Bool.and_eq_true, decide_eq_true_eq] at h
   obtain ⟨h1, h2⟩ := runsB_nodup r seen b o' hs0 h.2
   subst hb
   refine ⟨fun x hx => ?_, List.nodup_cons.2 ⟨fun hm => ?_, h2⟩⟩
   ·rcases List.mem_cons.1 hx with rfl | hx
    ·exact ⟨b', o', rfl, hs0, fun _ => h.1⟩
    ·obtain ⟨b2, o2, rfl, n2, l2⟩ := h1 x hx
     exact ⟨b2, o2, rfl, n2, fun e => Nat.lt_trans h.1 (l2 e)⟩
   ·obtain ⟨b2, o2, e, n2, l2⟩ := h1 _ hm
    cases e
    exact absurd (l2 rfl) (Nat.lt_irrefl _)
  ·rw [if_neg hb, Bool.and_eq_true] at h
   have hs : b' ∉ seen := by simpa using h.1
   obtain ⟨h1, h2⟩ := runsB_nodup r (b :: seen) b' o' (fun e => (List.mem_cons.1 e).elim hb hs) h.2
   refine ⟨fun x hx => ?_, List.nodup_cons.2 ⟨fun hm => ?_, h2⟩⟩
   ·rcases List.mem_cons.1 hx with rfl | hx
    ·exact ⟨b', o', rfl, hs, fun e => absurd e hb⟩
    ·obtain ⟨b2, o2, rfl, n2, l2⟩ := h1 x hx
     exact ⟨b2, o2, rfl, fun e => n2 (List.mem_cons.2 (.inr e)), fun e => absurd (List.mem_cons.2 (.inl e)) n2⟩
   ·obtain ⟨b2, o2, e, n2, l2⟩ := h1 _ hm
    cases e
    exact absurd (l2 rfl) (Nat.lt_irrefl _)
theorem laidMet_fast {P : Program} {w : World} {l : List (String × DataW Unit)} (fuel : Nat) (h : (DataW.laidRun P w fuel (l.map (·.1))).map (fun x => (x.1, runsB [] 1000000000 0 x.2 && laidRowsB P w x.2)) = some (l, true)) : laidMet P l w := by
 cases hx : DataW.laidRun P w fuel (l.map (·.1)) with
 | none => rw [hx] at h; cases h
 | some x =>
  obtain ⟨l', ps⟩ := x
  rw [hx] at h
  simp only [Option.map_some, Option.some.injEq, Prod.mk.injEq, Bool.and_eq_true] at h
  obtain ⟨rfl, h1, h2⟩ := h
  exact laidMet_of_run fuel hx (decide_eq_true (runsB_nodup ps [] 1000000000 0 (by simp) h1).2) h2
end Go.Proofs.YtopdjokncbpghaaGreatDoor.Pr
end
