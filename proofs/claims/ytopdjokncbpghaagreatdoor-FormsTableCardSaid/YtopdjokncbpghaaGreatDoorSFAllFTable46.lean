/-
  Lemmas for the law FAllFTable.
-/
import Derived.Test.YtopdjokncbpghaaGreatDoorSFAllFTable39
import Derived.Test.YtopdjokncbpghaaGreatDoorSFAllFTable45
set_option maxHeartbeats 8000000
set_option maxRecDepth 100000
set_option linter.unusedVariables false
set_option linter.unusedSimpArgs false
section
namespace Go.Proofs.YtopdjokncbpghaaGreatDoor.Pr
open Go.RowKit Go.Proofs.YtopdjokncbpghaaGreatDoorW.PrintWords Go.Proofs.YtopdjokncbpghaaGreatDoorW.PrintLast Go.Proofs.YtopdjokncbpghaaGreatDoorW.PrintMore Go.Sort
theorem lists9 : (forms_All.f 200 = some all9 ∧ foolscapref09_All.f 20000 = some ref9) ∧ (all9.Perm ref9 ∧ upF ref9 = true ∧ all9.length = 86) := by
 have h := lists_ok
 simp only [Bool.and_eq_true, decide_eq_true_eq] at h
 obtain ⟨⟨h1, h2⟩, h3, h4, h5⟩ := h
 refine ⟨⟨?_, ?_⟩, ?_, h4, h5⟩
 ·unfold all9
  cases e : forms_All.f 200 with
  | none => rw [e] at h1; cases h1
  | some l => rfl
 ·unfold ref9
  cases e : foolscapref09_All.f 20000 with
  | none => rw [e] at h2; cases h2
  | some l => rfl
 ·rw [← eqL_eq _ _ h3]; exact (sortF_perm all9).symm
theorem ref9_pos : 0 < ref9.length := by rw [← lists9.2.1.length_eq, lists9.2.2.2]; decide
theorem ref9_le : ref9.length ≤ 1000 := by rw [← lists9.2.1.length_eq, lists9.2.2.2]; decide
theorem ltS (x y : ByteArray) : ltStr x.toList y.toList = ltStr x.data.toList y.data.toList := by rw [ByteArray.toList_eq, ByteArray.toList_eq]
theorem up_pair : ∀ l, upF l = true → l.Pairwise (fun x y => ltStr x.f0.toList y.f0.toList = true)
 | [], _ => List.Pairwise.nil
 | x :: r, h => by
  rw [upF, Bool.and_eq_true] at h
  exact List.Pairwise.cons (fun y hy => by rw [ltS]; exact List.all_eq_true.1 h.1 y hy) (up_pair r h.2)
theorem lt_asym {x y : List UInt8} (h : ltStr x y = true) : ltStr y x = false := by
 cases e : ltStr y x with
 | false => rfl
 | true => have := swo_ltStr.trans _ _ _ h e; rw [swo_ltStr.irrefl] at this; exact this.symm
theorem one9 {L : List S24} (hp : L.Perm all9) (hs : L.Pairwise (fun x y => ltStr y.f0.toList x.f0.toList = false)) : L = ref9 := by
 have hu := up_pair _ lists9.2.2.1
 refine List.Perm.eq_of_pairwise (le := fun x y => ltStr y.f0.toList x.f0.toList = false) ?_ hs (hu.imp (fun h => lt_asym h)) (hp.trans lists9.2.1)
 intro a b ha hb h1 h2
 have ha' : a ∈ ref9 := (hp.trans lists9.2.1).mem_iff.1 ha
 obtain ⟨i, hi, rfl⟩ := List.getElem_of_mem ha'
 obtain ⟨j, hj, rfl⟩ := List.getElem_of_mem hb
 have hg := List.pairwise_iff_getElem.1 hu
 rcases Nat.lt_trichotomy i j with h | h | h
 ·rw [hg i j hi hj h] at h2; cases h2
 ·subst h; rfl
 ·rw [hg j i hj hi h] at h1; cases h1
theorem add0 (g n : Nat) : (⟨g, 0, none⟩ : Addr).add n = ⟨g, n, none⟩ := by
 unfold Addr.add
 by_cases h : n = 0
 ·rw [if_pos h, h]
 ·rw [if_neg h, Nat.zero_add]
theorem four {w : World} {p : Addr} {v0 v1 v2 v3 : Value} (g0 : w.cell? p = some v0) (g1 : w.cell? ⟨p.block, p.off + 1, none⟩ = some v1) (g2 : w.cell? ⟨p.block, p.off + 2, none⟩ = some v2) (g3 : w.cell? ⟨p.block, p.off + 3, none⟩ = some v3) : CellsAt w p #[v0, v1, v2, v3] := by
 intro j v hv
 match j, hv with
 | 0, hv => cases hv; exact g0
 | 1, hv => cases hv; exact g1
 | 2, hv => cases hv; exact g2
 | 3, hv => cases hv; exact g3
 | j + 4, hv => cases hv
theorem row_own {w : World} {g : Nat} {d : Array F9} (hH : HoldsK encF 4 w g 0 d) {i : Nat} (hi : i < d.size) : RowAt w ⟨g, 0, none⟩ i d[i].x.f0 d[i].x.f1 d[i].x.f2 (.slice d[i].p d[i].x.f3.length d[i].c) := by
 have hg : d[i]! = d[i] := getElem!_pos d i hi
 have c0 := (HoldsK.cell hH hi (show 0 < 4 by omega)).1
 have c1 := (HoldsK.cell hH hi (show 1 < 4 by omega)).1
 have c2 := (HoldsK.cell hH hi (show 2 < 4 by omega)).1
 have c3 := (HoldsK.cell hH hi (show 3 < 4 by omega)).1
 rw [hg, Nat.zero_add] at c0 c1 c2 c3
 unfold RowAt
 rw [add0]
 exact ⟨four c0 c1 c2 c3, c0, c3⟩
theorem row_at {w : World} {ok : Nat → Prop} {A : Option Addr} {L : List S24} (h : Kd.F k24 w ok A L.length L) {i : Nat} (hi : i < L.length) :
  ∃ ad aw cw, A = some ad ∧ RowAt w ad i L[i].f0 L[i].f1 L[i].f2 (.slice aw L[i].f3.length cw) ∧ L[i].f3.length ≤ cw ∧ ok ad.block ∧ Kd.F (Kd.int .i64) w ok aw L[i].f3.length L[i].f3 := by
 obtain ⟨ad, c, e, hc, hK, hcc, hk⟩ := Kd.F_get h z24 (i : Int) (by omega) (by omega)
 rw [Int.toNat_natCast, List.getD_eq_getElem?_getD, List.getElem?_eq_getElem hi] at hK
 obtain ⟨aw, cw, rfl, hl, hF⟩ := k24_openF hK
 have hcc2 : ∀ j u, [Value.string L[i].f0, .int .i64 L[i].f1, .int .i64 L[i].f2, .slice aw L[i].f3.length cw][j]? = some u → w.cell? (ad.add (i * 4 + j)) = some u := hcc
 have c0 := hcc2 0 _ rfl
 have c1 := hcc2 1 _ rfl
 have c2 := hcc2 2 _ rfl
 have c3 := hcc2 3 _ rfl
 rw [add_field _ _ _ (by omega)] at c1 c2 c3
 exact ⟨ad, aw, cw, e, ⟨four c0 c1 c2 c3, c0, c3⟩, hl, hk (by decide), hF⟩
theorem refAll_calls (W : World) (R : List S24) (hRe : R = ref9) (i : Nat) (hi : i < R.length) : Calls Tryz.prog 24 #[] W (RefOut R.length i R[i].f0 R[i].f1 R[i].f2 R[i].f3 W) := by
 refine (foolscapref09_All.calls 20000 R W (lists9.1.2.trans (congrArg some hRe.symm))).mono ?_
 rintro e w' ⟨v, rfl, hN, hb⟩
 obtain ⟨A, c, rfl⟩ := Kd.N_slice hN
 obtain ⟨ad, aw, cw, rfl, hr, hl, hk, hF⟩ := row_at (Kd.N_F hN) hi
 exact ⟨ad, c, aw, cw, rfl, hl, hr, hk, hF, hb⟩
theorem formsAll_calls (W : World) (hL0 : Aside0 (LaidW W)) (R : List S24) (hRe : R = ref9) (i : Nat) (hi : i < R.length) : Calls Tryz.prog 23 #[] W (AllOut R.length i R[i].f0 R[i].f1 R[i].f2 R[i].f3 W) := by
 have hlen := lists9.2.2.2
 refine (forms_All.calls 200 all9 W lists9.1.1 (fun e => by rw [e] at hlen; cases hlen) (by omega) hL0).mono ?_
 rintro e w' ⟨v, L, rfl, hp, hs, hR, hb⟩
 have hLe := (one9 hp hs).trans hRe.symm
 subst hLe
 obtain ⟨g, cap, cur, d, rfl, hL, hok, hg, hh, hle, hmax, hsz, hH, hM⟩ := rows9 hR (fun e => by rw [e] at hi; cases hi)
 have hdl : d.size = L.length := by rw [← hL, List.length_map, Array.length_toList]
 have hid : i < d.size := by omega
 have hx : d[i].x = L[i] := by
  have : (d.toList.map F9.x)[i]? = L[i]? := by rw [hL]
  rw [List.getElem?_map, List.getElem?_eq_getElem (by rw [Array.length_toList]; exact hid), List.getElem?_eq_getElem hi, Option.map_some, Option.some.injEq, Array.getElem_toList] at this
  exact this
 have hr := row_own hH hid
 have hm := hM d[i] (by rw [← Array.getElem_toList (h := hid)]; exact List.getElem_mem ..)
 unfold WantsM at hm
 rw [hx] at hr hm
 have hm2 := Kd.R_bound hm
 refine ⟨⟨g, 0, none⟩, cap, d[i].p, d[i].c, by rw [hdl], ?_, hr, hg, Kd.F_mono (Kd.R_F hm2) (fun k hk => hk.2.1), ?_, hb⟩
 ·obtain ⟨_, inner, ho, _⟩ := hm
  rcases ho.2 with ⟨e, hn⟩ | ⟨g', cap', cur', e, _, _, hl', _⟩
  ·rw [hn]; exact Nat.zero_le _
  ·injection e with _ _ e3; rw [e3]; exact hl'
 ·obtain ⟨h0, inner, ho, _⟩ := hm
  have hlt := own_lt ho
  have hba := own_base ho
  rcases ho.2 with ⟨e, hn⟩ | ⟨g', cap', cur', e, hg', hh', hl', _, hs', _⟩
  ·exact .inl hn
  ·injection e with e1 _ e3
   rw [e1] at h0 hlt hba
   exact .inr ⟨g', cur', e1, hg', hlt g' rfl, (h0 g' rfl).2, hh', by rw [hs']; exact Nat.le_trans hl' (Nat.le_of_eq (Nat.mul_one _).symm)⟩
theorem ref9_wants0 : (ref9.all fun x => decide (x.f3.length ≤ 1000)) = true := by decide +kernel
theorem ref9_wants {x : S24} (h : x ∈ ref9) : x.f3.length ≤ 1000 := of_decide_eq_true (List.all_eq_true.1 ref9_wants0 x h)
theorem FormsAll_walk (k : Int) (w : World) (w1 : (Lit.int .i64 k).wf = true) (hL0 : Aside0 (LaidW w)) :
  Calls Tryz.prog 8 #[.int .i64 k] w fun e w' => e = .returned (.bool true) ∧ Below w.heap.size w w' := by
 obtain ⟨R, hR⟩ : ∃ R, R = ref9 := ⟨_, rfl⟩
 have hp : 0 < R.length := by rw [hR]; exact ref9_pos
 have hl : R.length ≤ 1000 := by rw [hR]; exact ref9_le
 have hw : ∀ x ∈ R, x.f3.length ≤ 1000 := by rw [hR]; exact fun x h => ref9_wants h
 have hi : uint_ix k R.length < R.length := uint_lt k hp
 have hV : (R[uint_ix k R.length]'hi).f3.length ≤ 1000 := hw _ (List.getElem_mem hi)
 exact fall_go k R.length hp hl _ _ _ _ hV w ⟨fun W hW => formsAll_calls W (LaidAt hL0 hW) R hR _ hi⟩ ⟨fun W hW => refAll_calls W R hR _ hi⟩ ⟨fun W A_ c_ B_ e_ l1 l2 k1 k2 => foolscapref09_Same.calls _ _ _ _ A_ c_ _ _ _ _ B_ e_ _ true W k1 l1 k2 l2 (same9 _ _ _ _ (by omega))⟩ (lives9 hL0)
end Go.Proofs.YtopdjokncbpghaaGreatDoor.Pr
end
