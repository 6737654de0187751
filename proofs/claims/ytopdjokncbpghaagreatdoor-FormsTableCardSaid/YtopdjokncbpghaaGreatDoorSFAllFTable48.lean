/-
  Lemmas for the law FAllFTable.
-/
import Derived.Test.YtopdjokncbpghaaGreatDoorSFAllFTable47
import Derived.Test.YtopdjokncbpghaaGreatDoorSFAllFTable46
set_option maxHeartbeats 8000000
set_option maxRecDepth 100000
set_option linter.unusedVariables false
set_option linter.unusedSimpArgs false
section
namespace Go.Proofs.YtopdjokncbpghaaGreatDoor.Pr
open Go.RowKit Go.Proofs.YtopdjokncbpghaaGreatDoorW.PrintWords Go.Proofs.YtopdjokncbpghaaGreatDoorW.PrintLast Go.Proofs.YtopdjokncbpghaaGreatDoorW.PrintMore Go.Sort
def rowOk (x : S24) : Bool := (findT x.f0 == some ⟨x.f1, x.f2, x.f3⟩) && (decide (x.f1 ≤ x.f2) && (decide (x.f2 = 0) || (decide (0 < x.f2) && (decide (0 < x.f3.length) && decide ((x.f3.length : Int) ≤ x.f2)))))
theorem rows9_ok0 : (ref9.all rowOk && decide (80 ≤ ref9.length)) = true := by decide +kernel
theorem rows9_ok {x : S24} (h : x ∈ ref9) : rowOk x = true := by
 have h0 := rows9_ok0
 rw [Bool.and_eq_true] at h0
 exact List.all_eq_true.1 h0.1 x h
theorem ref9_80 : 80 ≤ ref9.length := by
 have h0 := rows9_ok0
 rw [Bool.and_eq_true] at h0
 exact of_decide_eq_true h0.2
theorem two_calls (W : World) (hL0 : Aside0 (LaidW W)) (R : List S24) (hRe : R = ref9) (i j : Nat) (hi : i < R.length) (hj : j < R.length) :
  Calls Tryz.prog 23 #[] W fun e w' => ∃ ad cap, e = .returned (.slice (some ad) R.length cap) ∧ w'.cell? (ad.add (i * 4)) = some (.string R[i].f0) ∧ w'.cell? (ad.add (j * 4)) = some (.string R[j].f0) ∧ Below W.heap.size W w' := by
 have hlen := lists9.2.2.2
 refine (forms_All.calls 200 all9 W lists9.1.1 (fun e => by rw [e] at hlen; cases hlen) (by omega) hL0).mono ?_
 rintro e w' ⟨v, L, rfl, hp, hs, hR, hb⟩
 have hLe := (one9 hp hs).trans hRe.symm
 subst hLe
 have hN := Kd.R_N hR
 obtain ⟨A, c, rfl⟩ := Kd.N_slice hN
 obtain ⟨ad, aw, cw, rfl, hr, _⟩ := row_at (Kd.N_F hN) hi
 obtain ⟨ad2, aw2, cw2, e2, hr2, _⟩ := row_at (Kd.N_F hN) hj
 injection e2 with e2
 subst e2
 exact ⟨ad, c, rfl, hr.2.1, hr2.2.1, hb⟩
theorem less9 {R : List S24} (hRe : R = ref9) {i j : Nat} (hi : i < R.length) (hj : j < R.length) : Op.bytesLess R[i].f0.toList R[j].f0.toList = decide (i < j) := by
 have hu : R.Pairwise (fun x y => ltStr x.f0.toList y.f0.toList = true) := by rw [hRe]; exact up_pair _ lists9.2.2.1
 have hg := List.pairwise_iff_getElem.1 hu
 have e : Op.bytesLess R[i].f0.toList R[j].f0.toList = ltStr R[i].f0.toList R[j].f0.toList := bytesLess_eq _ _
 rw [e]
 rcases Nat.lt_trichotomy i j with h | h | h
 ·rw [decide_eq_true h]; exact hg i j hi hj h
 ·subst h; rw [decide_eq_false (Nat.lt_irrefl _)]; exact swo_ltStr.irrefl _
 ·rw [decide_eq_false (Nat.not_lt.2 (Nat.le_of_lt h))]; exact lt_asym (hg j i hj hi h)
theorem FormsTable_walk (k m : Int) (w : World) (w1 : (Lit.int .i64 k).wf = true) (w2 : (Lit.int .i64 m).wf = true) (hL0 : Aside0 (LaidW w)) :
  Calls Tryz.prog 9 #[.int .i64 k, .int .i64 m] w fun e w' => e = .returned (.bool true) ∧ Below w.heap.size w w' := by
 obtain ⟨R, hR⟩ : ∃ R, R = ref9 := ⟨_, rfl⟩
 have hp : 0 < R.length := by rw [hR]; exact ref9_pos
 have hl : R.length ≤ 1000 := by rw [hR]; exact ref9_le
 have h80 : 80 ≤ R.length := by rw [hR]; exact ref9_80
 have hi : uint_ix k R.length < R.length := uint_lt k hp
 have hj : uint_ix m R.length < R.length := uint_lt m hp
 have hok : rowOk (R[uint_ix k R.length]'hi) = true := rows9_ok (by rw [← hR]; exact List.getElem_mem hi)
 have hlt := less9 hR hi hj
 have HA := fun W (hW : Below w.heap.size w W) => two_calls W (LaidAt hL0 hW) R hR _ _ hi hj
 have HF0 := fun W (hW : Below w.heap.size w W) => find_calls (R[uint_ix k R.length]'hi).f0 W (LaidAt hL0 hW)
 generalize (R[uint_ix k R.length]'hi) = x at hok hlt HA HF0
 generalize (R[uint_ix m R.length]'hj).f0 = nm2 at hlt HA
 unfold rowOk at hok
 simp only [Bool.and_eq_true, Bool.or_eq_true, decide_eq_true_eq, beq_iff_eq] at hok
 obtain ⟨hf, hlo, hhi⟩ := hok
 have HF : ∀ W, Below w.heap.size w W → Calls Tryz.prog 10 #[.string x.f0] W (FormOut x.f0 x.f1 x.f2 x.f3 0 W) := by
  intro W hW
  have := HF0 W hW
  rw [hf] at this
  exact this
 by_cases hz : uint_ix k R.length < uint_ix m R.length
 ·rw [decide_eq_true hz] at hlt
  rcases hhi with h | ⟨h1, h2, h3⟩
  ·exact ftable_zt k m R.length hp h80 hl x.f0 nm2 x.f1 x.f2 x.f3 hlo (by omega) hz hlt w ⟨HA⟩ ⟨HF⟩ (lives9 hL0)
  ·exact ftable_pt k m R.length hp h80 hl x.f0 nm2 x.f1 x.f2 x.f3 hlo h1 h2 h3 hz hlt w ⟨HA⟩ ⟨HF⟩ (lives9 hL0)
 ·rw [decide_eq_false hz] at hlt
  rcases hhi with h | ⟨h1, h2, h3⟩
  ·exact ftable_zf k m R.length hp h80 hl x.f0 nm2 x.f1 x.f2 x.f3 hlo (by omega) hz hlt w ⟨HA⟩ ⟨HF⟩ (lives9 hL0)
  ·exact ftable_pf k m R.length hp h80 hl x.f0 nm2 x.f1 x.f2 x.f3 hlo h1 h2 h3 hz hlt w ⟨HA⟩ ⟨HF⟩ (lives9 hL0)
end Go.Proofs.YtopdjokncbpghaaGreatDoor.Pr
end
