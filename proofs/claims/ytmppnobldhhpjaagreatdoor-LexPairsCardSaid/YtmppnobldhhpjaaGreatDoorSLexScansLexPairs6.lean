/-
  Lemmas for the law LexScansLexPairs.
-/
import Derived.Test.YtmppnobldhhpjaaGreatDoorSLexScansLexPairs0
import Derived.Below
import Derived.KernelRfl
import Derived.Lib.ItoaNum
import Derived.Lib.LaidTab
import Derived.Lib.LaidU8
import Derived.Test.YtmppnobldhhpjaaGreatDoorProg
import Derived.WalkKit
section
namespace Go.Proofs.YtmppnobldhhpjaaGreatDoor.Pr
open Go.RowKit Go.Proofs.YtmppnobldhhpjaaGreatDoorW.PrintWords
theorem gPow10 : Tryz.prog.globalNamed "internal/strconv.uint64pow10" = some 5 := by kernel_rfl
structure LaidW (w : World) : Prop where mk ::
  (pow10 : Lib.TabIs Tryz.prog w "internal/strconv.uint64pow10" .u64 Lib.pow10Tab)
  (maxLen : ∃ m : Int, w.cell? ⟨0, 0, none⟩ = some (.int .i64 m))
theorem var_below {P : Program} {B g : Nat} {W W' : World} {n : String} {cs : Array Value} (h : Below B W W') (hg : P.globalNamed n = some g) (hgB : g < B) (hv : W.var? P n = some cs) : W'.var? P n = some cs := by
  unfold World.var? at hv ⊢
  simp only [hg, Option.bind_some] at hv ⊢
  rw [h.block g hgB]
  exact hv
theorem tab_of_reads {P : Program} {W : World} {name : String} {k : IntKind} {zs : List Int} {g : Nat} {t e : TypeId} {n : Nat}
    (hg : P.globalNamed name = some g) (hty : (P.globals[g]?).map (·.type) = some t) (ht : P.underlying t = some (.array n e)) (he : P.underlying e = some (.int k)) (hce : P.cellsOf e = 1) (hct : P.cellsOf t = n)
    (h : Lib.VarReads P W name (Lib.tabData k zs)) : Lib.TabIs P W name k zs := by
  obtain ⟨g', t', cs, fuel, p, hg', ht', hvar, hd⟩ := h
  obtain rfl := Option.some.inj (hg.symm.trans hg')
  obtain rfl := Option.some.inj (hty.symm.trans ht')
  unfold Lib.TabIs
  rw [hvar, ← Lib.cells_of_tab ht he hce hct hd]
theorem pow10_of_reads {W : World} {d : DataW Unit} (h : Lib.VarReads Tryz.prog W "internal/strconv.uint64pow10" d) (hd : d = Lib.tabData .u64 Lib.pow10Tab) : Lib.TabIs Tryz.prog W "internal/strconv.uint64pow10" .u64 Lib.pow10Tab := by
  subst hd
  exact tab_of_reads gPow10 (show (Tryz.prog.globals[5]?).map (·.type) = some 163 by kernel_rfl) Tryz.underlying163 Tryz.underlying83 (by kernel_rfl) (by kernel_rfl) h
theorem LaidW.below {w w1 : World} (h : LaidW w) (hb : Below w.heap.size w w1) : LaidW w1 := by
  have hc := h.pow10.cell gPow10 0 (by decide)
  have hg : 5 < w.heap.size := World.block_lt_of_cell? w _ hc
  obtain ⟨m, hm⟩ := h.maxLen
  exact ⟨var_below hb gPow10 hg h.pow10, m, (hb.cell (World.block_lt_of_cell? w _ hm)).trans hm⟩
theorem LaidAt {w w1 : World} (h : Aside0 (LaidW w)) (hb : Below w.heap.size w w1) : Aside0 (LaidW w1) := ⟨h.out.below hb⟩
end Go.Proofs.YtmppnobldhhpjaaGreatDoor.Pr
end
