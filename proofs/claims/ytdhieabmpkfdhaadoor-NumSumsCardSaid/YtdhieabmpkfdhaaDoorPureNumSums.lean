/-
  The law NumSums, over whole numbers alone, and the walk that follows.
-/
import Derived.Test.YtdhieabmpkfdhaaDoorPr7
import Derived.Test.YtdhieabmpkfdhaaDoorPNum
namespace Go.Proofs.YtdhieabmpkfdhaaDoor.Pr
set_option linter.unusedVariables false
open Go.RowKit Go.Proofs.YtdhieabmpkfdhaaDoorW.PrintWords Go.Proofs.YtdhieabmpkfdhaaDoorW.PrintMore
theorem ref01_Fits_eq (a : Int) : foolscapref01_Fits.f a = num_Fits.f a := rfl
theorem ref01_told_eq (a : Int) : foolscapref01_told.f a = num_told.f a := rfl
theorem num_Add_eq (a b : Int) : ∃ x, num_Add.f a b = some x ∧ foolscapref01_Add.f a b = some x := by
  unfold num_Add.f foolscapref01_Add.f
  rw [ref01_Fits_eq, ref01_Fits_eq, ref01_told_eq, num_Fits_eq, num_Fits_eq, num_told_eq]
  simp only [Option.bind_some]
  cases num_fits a <;> cases num_fits b <;> simp
theorem num_Sub_eq (a b : Int) : ∃ x, num_Sub.f a b = some x ∧ foolscapref01_Sub.f a b = some x := by
  unfold num_Sub.f foolscapref01_Sub.f
  rw [ref01_Fits_eq, ref01_Fits_eq, ref01_told_eq, num_Fits_eq, num_Fits_eq, num_told_eq]
  simp only [Option.bind_some]
  cases num_fits a <;> cases num_fits b <;> simp
theorem NumSums_pure (a b : Int) : foolscaplaw01_NumSums.f 1 a b = some true := by
  obtain ⟨x, h1, h2⟩ := num_Add_eq a b
  obtain ⟨y, h3, h4⟩ := num_Sub_eq a b
  unfold foolscaplaw01_NumSums.f
  rw [h1, h2, h3, h4, ref01_Fits_eq, num_Fits_eq, num_lives 1 (Nat.le_refl _)]
  simp
theorem NumSums_walk (a0 a1 : Int) (w : World) (w0 : (Lit.int .i64 a0).wf = true) (w1 : (Lit.int .i64 a1).wf = true) (hL : Aside0 (LaidW w)) :
    Calls Tryd.prog 6 #[.int .i64 a0, .int .i64 a1] w fun e w' => e = .returned (.bool true) ∧ Below w.heap.size w w' :=
  foolscaplaw01_NumSums.calls 1 a0 a1 true w (NumSums_pure a0 a1) hL
end Go.Proofs.YtdhieabmpkfdhaaDoor.Pr
