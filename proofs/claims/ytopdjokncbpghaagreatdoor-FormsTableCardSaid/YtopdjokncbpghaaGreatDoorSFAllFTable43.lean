/-
  Lemmas for the law FAllFTable.
-/
import Derived.Test.YtopdjokncbpghaaGreatDoorSFAllFTable41
import Derived.Test.YtopdjokncbpghaaGreatDoorSFAllFTable42
import Derived.Test.YtopdjokncbpghaaGreatDoorSFAllFTable27
import Derived.Test.YtopdjokncbpghaaGreatDoorSFAllFTable18
import Derived.Test.YtopdjokncbpghaaGreatDoorSFAllFTable17
import Derived.Shelf.SlSortCmp.WholeK
set_option maxHeartbeats 8000000
set_option maxRecDepth 100000
set_option linter.unusedVariables false
set_option linter.unusedSimpArgs false
section
namespace Go.Proofs.YtopdjokncbpghaaGreatDoor.Pr
open Go.RowKit Go.Proofs.YtopdjokncbpghaaGreatDoorW.PrintWords Go.Proofs.YtopdjokncbpghaaGreatDoorW.PrintLast Go.Proofs.YtopdjokncbpghaaGreatDoorW.PrintMore Go.Sort
def cfF (x y : F9) : Int := cmp9 x.x.f0 y.x.f0
theorem ltF (x y : F9) : ltOf cfF x y = ltStr x.x.f0.toList y.x.f0.toList := by
 unfold ltOf cfF cmp9 ltStr
 rw [bytesLess_eq]
 by_cases h : x.x.f0.toList < y.x.f0.toList
 ·rw [decide_eq_true h, if_pos rfl]; rfl
 ·rw [decide_eq_false h, if_neg (by decide)]
  by_cases h2 : x.x.f0.toList = y.x.f0.toList
  ·rw [if_pos h2]; rfl
  ·rw [if_neg h2]; rfl
theorem swoF : SWO (ltOf cfF) where
 irrefl x := by rw [ltF]; exact swo_ltStr.irrefl _
 trans x y z h1 h2 := by rw [ltF] at *; exact swo_ltStr.trans _ _ _ h1 h2
 ntrans x y z h1 h2 := by rw [ltF] at *; exact swo_ltStr.ntrans _ _ _ h1 h2
theorem cmpF (w : World) (g gc size : Nat) (hne : gc ≠ g) (hc : w.heap[gc]? = some (.cells #[.func (.func 46) #[] #[]] 87 (0, 0))) :
  CmpLays Tryz.prog 65 #[ptrV gc] encF 4 cfF g 0 size w := by
 intro m os dk hs x y
 have hc2 : (sortWorldK encF 4 w g 0 m dk os).heap[gc]? = some (.cells #[.func (.func 46) #[] #[]] 87 (0, 0)) := (sort_other w g m dk os (Array.getElem?_eq_some_iff.1 hc).1 hne).trans hc
 refine (sorted1_calls gc x.x.f0 y.x.f0 x.x.f1 x.x.f2 y.x.f1 y.x.f2 x.p y.p x.x.f3.length x.c y.x.f3.length y.c _ ⟨hc2⟩).mono ?_
 rintro e w' ⟨rfl, rfl⟩
 rw [alloc_eq_grow, alloc_eq_grow, alloc_eq_grow, alloc_eq_grow, grow_grow, grow_grow, grow_grow]
 exact ⟨rfl, 1, _, rfl⟩
theorem sorted_calls (w0 : World) (P : Nat → Prop) (u : Value) (L : List S_F) (w : World) (hB : Below w0.heap.size w0 w) (hR : Kd.R k24 24 w w0.heap.size P u L) (hne : L ≠ []) (hl : L.length < 1000000) :
  Calls Tryz.prog 45 #[u, .func (.func 46) #[] #[]] w fun e w' => ∃ L', e = .returned u ∧ L'.Perm L ∧ L'.Pairwise (fun x y => ltStr y.f0.toList x.f0.toList = false) ∧ Kd.R k24 24 w' w0.heap.size P u L' ∧ Below w0.heap.size w0 w' := by
 obtain ⟨g, cap, cur, d, rfl, hL, hok, hg, hh, hle, hmax, hsz, hH, hM⟩ := rows9 hR hne
 have hgl : g < w.heap.size := (Array.getElem?_eq_some_iff.1 hh).1
 have hdl : d.size = L.length := by rw [← hL, List.length_map, Array.length_toList]
 have eg : ∀ args w, (callFunc 65 args).run Tryz.prog w = .ok (.enter 65 args) w := enters_of Tryz.func65 (by kernel_rfl) rfl
 have HG : Aside0 (w.heap.size ≠ g) := ⟨by omega⟩
 have hcon0 := (AnyQ.slices_SortFunc Tryz.sortForm 4 Tryz.isAgg24 Tryz.sizeOf24 encF encF_len encF_one cfF swoF 65 #[ptrV w.heap.size] g 0 cap d (w.alloc (.cells #[.func (.func 46) #[] #[]] 87 (0, 0))) eg (cmpF _ g w.heap.size d.size HG.out (newBlk w _)) (by rw [alloc_eq_grow]; exact holdsK_grow encF 4 w _ g 0 d hgl hH) (by rw [alloc_eq_grow, size_grow]; omega) (by omega))
 change Calls Tryz.prog 64 _ _ _ at hcon0
 have hcon := Aside0.mk hcon0
 clear hcon0
 have HX := Aside0.mk (And.intro hL (And.intro hh (And.intro hH (And.intro hM (And.intro hB (And.intro hle (And.intro hmax hsz)))))))
 clear hL hh hH hM hB hle hmax hsz hR eg hdl hl
 go_enter Tryz.func45, Tryz.ntmps45
 go_wp2_with (go_at_call 64; (with_reducible refine hcon.out.mono ?_); clear hcon; rintro e w' ⟨rfl, d', n, os, hp, hs, rfl⟩; have HP := Aside0.mk hp; have HS := Aside0.mk hs; clear hp hs)
 go_ret
 obtain ⟨hL, hh, hH, hM, hB, hle, hmax, hsz⟩ := HX.out
 have hpm : d'.toList.Perm d.toList := by
  obtain ⟨h1, _, h3⟩ := HP.out
  rw [show d.extract 0 d.size = d from Array.extract_size, show d'.extract 0 d.size = d' by rw [← h1]; exact Array.extract_size] at h3
  exact h3
 have hds : d'.size = d.size := HP.out.1
 have hal := blk_alloc hh (.cells #[.func (.func 46) #[] #[]] 87 (0, 0))
 refine ⟨d'.toList.map F9.x, rfl, ?_, ?_, ?_, ?_⟩
 ·rw [← hL]; exact hpm.map _
 ·rw [List.pairwise_map, List.pairwise_iff_getElem]
  intro i j hi hj hij
  rw [Array.length_toList] at hi hj
  have := HS.out i j (Nat.zero_le _) hij (by omega)
  rw [ltF, getElem!_pos d' j hj, getElem!_pos d' i hi] at this
  rw [Array.getElem_toList, Array.getElem_toList]
  exact this
 ·refine rows9_back hok hg hh hle hmax hsz hM hpm (sort_own _ g n d' os hal) ?_
  intro k hk hkne
  rw [sort_other _ g n d' os (by rw [alloc_eq_grow, size_grow]; omega) hkne, alloc_eq_grow, heap_grow_old _ _ hk]
 ·exact sort_below w0 _ g n d' os (below_alloc hB _) hg
end Go.Proofs.YtopdjokncbpghaaGreatDoor.Pr
end
section
namespace Go.Proofs.YtopdjokncbpghaaGreatDoor.Pr
open Go.RowKit Go.Proofs.YtopdjokncbpghaaGreatDoorW.PrintWords Go.Proofs.YtopdjokncbpghaaGreatDoorW.PrintLast Go.Proofs.YtopdjokncbpghaaGreatDoorW.PrintMore Go.Sort
attribute [local go_sem] max2_int min2_int max_two min_two max_three min_three max_four min_four
mutual
def forms_All.l0 : Nat → List (S24) → List (S68) → Int → Int → Option ((List (S24)))
 | 0, _, _, _, _ => none
 | k + 1, x1, x6, x7, x8 => if x8 < x7 then (if 0 ≤ x8 then (if x8 < (x6.length : Int) then ((strings_Fields.f ((rd_T68 x6 x8).f0)).bind fun t429 => (forms_All.l1 k x1 x6 x7 x8 t429 (t429.length : Int) 0 ((rd_T68 x6 x8).f0) ((rd_T68 x6 x8).f1) ((rd_T68 x6 x8).f2) ((rd_T68 x6 x8).f3))) else (none)) else (none)) else (some x1)
def forms_All.l1 : Nat → List (S24) → List (S68) → Int → Int → List ByteArray → Int → Int → ByteArray → Int → Int → ByteArray → Option ((List (S24)))
 | 0, _, _, _, _, _, _, _, _, _, _, _ => none
 | k + 1, x1, x6, x7, x8, x14, x15, x16, x429000, x429001, x429002, x429003 => if x16 < x15 then (if 0 ≤ x16 then (if x16 < (x14.length : Int) then ((forms_group_form.f k x429000 x429001 x429002 x429003 (rdOf ByteArray.empty x14 x16)).bind fun bt433 => (if x1.length < 2513169434916 then (forms_All.l1 k (x1 ++ [(⟨bt433.1, bt433.2.1, bt433.2.2.1, bt433.2.2.2⟩ : S24)]) x6 x7 x8 x14 x15 (wrap64 (x16 + 1)) x429000 x429001 x429002 x429003) else (none))) else (none)) else (none)) else (forms_All.l0 k x1 x6 x7 (wrap64 (x8 + 1)))
end
def forms_All.f (k : Nat)  : Option ((List (S24))) := (forms_groups.f).bind fun t424 => (forms_All.l0 k ([] : List (S24)) t424 (t424.length : Int) 0)
theorem forms_All.calls (k : Nat) (r : List (S24)) (w : World) (h : forms_All.f k  = some r) (hne : r ≠ []) (hl : r.length < 1000000) (hL0 : Aside0 (LaidW w)) :
  Calls Tryz.prog 23 #[] w fun e w' => ∃ (v0_ : Value) (L : List S24), e = .returned (v0_) ∧ L.Perm r ∧ L.Pairwise (fun x y => ltStr y.f0.toList x.f0.toList = false) ∧ Kd.R k24 24 w' w.heap.size (fun _ => True) v0_ L ∧ Below w.heap.size w w' := by
 have hu68 := Tryz.underlying68
 have HB := Aside0.mk (Below.refl w.heap.size w)
 have H : ((forms_groups.f).bind fun t424 => (forms_All.l0 k ([] : List (S24)) t424 (t424.length : Int) 0)) = some r := h
 clear h
 replace H := Option.bind_eq_some_iff.mp H
 obtain ⟨t424, A10, H⟩ := H
 replace H : (forms_All.l0 k ([] : List (S24)) t424 (t424.length : Int) 0) = some r := H
 have A1 := Aside0.mk A10
 clear A10
 have H' := Aside0.mk H
 clear H
 go_enter Tryz.func23, Tryz.ntmps23
 go_wp2_with (first | ((with_reducible refine gate_callee (f := 25) rfl ?_); refine goesL_ (some 6) rfl rfl Tryz.func25 (by kernel_rfl) rfl #[] rfl (by (try simp only [List.map_toArray, List.map_cons, List.map_nil]); first | done | rfl | (simp only [List.length_drop, List.length_take]; rfl) | (simp only [ByteArray.size_append, Int.natCast_add]; done) | (simp only [ByteArray.size_append, Int.natCast_add]; rfl) | (simp only [Array.mk.injEq, List.cons.injEq, Value.int.injEq, true_and, and_true]; (try simp only [mx, mn, wrap64] at *); omega)) ?_; (with_reducible refine (forms_groups.calls  t424 _ A1.out).mono ?_); rintro e w2 ⟨v425, rfl, ho0, hb⟩; refine ⟨_, rfl, ?_⟩; have n0_ := Aside0.mk (Kd.R_lower ho0 (below_size (by repeat (first | (with_reducible first | exact HB.out | apply below_alloc | apply pw_below_drewN | apply below_drew1) | exact HB.out)))); have n1_ := Aside0.mk (below_step (by repeat (first | (with_reducible first | exact HB.out | apply below_alloc | apply pw_below_drewN | apply below_drew1) | exact HB.out)) hb); clear HB; have HO426 := n0_; have HB := n1_; clear n0_ n1_; (try clear hb); (try clear hb2); (try clear hk); (try clear hi); (try clear ho0); obtain ⟨Ao3, co3, eo3⟩ := Kd.R_slice HO426.out; subst eo3))
 go_loopg [1, 8] k (fun kq v1 v8 w' => ∃ (x1_1 : List (S24)) (x8_1 : Int), v8 = .int .i64 x8_1 ∧ Aside0 (forms_All.l0 kq x1_1 t424 (t424.length : Int) x8_1 = some r) ∧ Aside0 (kq ≤ k) ∧ Aside0 (Kd.S k24 24 w' w.heap.size (fun _ => True) v1 x1_1) ∧ Aside0 (Kd.R k68 68 w' w.heap.size (fun _ => True) (.slice Ao3 t424.length co3) t424) ∧ Aside0 (Below w.heap.size w w'))
 case atStart => exact ⟨(([] : List (S24))), (0), (rflS), H', ⟨Nat.le_refl _⟩, ⟨by first | exact Kd.S_nil _ _ _ _ _ | exact Kd.N_nil _ _ _ _ _ | exact Kd.V_nil _ _ _ _ _ | exact Kd.Q_nil _ _ _ _ _ | exact Kd.R_nil _ _ _ _ _⟩, ⟨by (with_reducible repeat (first | apply Kd.R_alloc | apply Kd.R_drewN | apply Kd.R_drew)); exact HO426.out⟩, ⟨by repeat (first | (with_reducible first | exact HB.out | apply below_alloc | apply pw_below_drewN | apply below_drew1) | exact HB.out)⟩⟩
 case round =>
  clear H'
  try clear c2
  try clear p2
  obtain ⟨x1_1, x8_1, rfl, HA, HK1, HO_1, HO_6, HB⟩ := hrel
  cases gk with
  | zero => exact absurd HA.out (by simp [forms_All.l0])
  | succ k1 =>
   have H := HA.out
   clear HA
   simp only [forms_All.l0] at H
   by_cases c4 : x8_1 < (t424.length : Int)
   ·rw [if_pos c4] at H
    have c4b0 : decide (x8_1 < (t424.length : Int)) = true := decide_eq_true c4
    clear c4
    by_cases c5 : 0 ≤ x8_1
    ·rw [if_pos c5] at H
     have c5b0 : decide (0 ≤ x8_1) = true := decide_eq_true c5
     clear c5
     by_cases c6 : x8_1 < (t424.length : Int)
     ·rw [if_pos c6] at H
      have c6b0 : decide (x8_1 < (t424.length : Int)) = true := decide_eq_true c6
      clear c6
      replace H := Option.bind_eq_some_iff.mp H
      obtain ⟨t429, A70, H⟩ := H
      replace H : (forms_All.l1 k1 x1_1 t424 (t424.length : Int) x8_1 t429 (t429.length : Int) 0 ((rd_T68 t424 x8_1).f0) ((rd_T68 t424 x8_1).f1) ((rd_T68 t424 x8_1).f2) ((rd_T68 t424 x8_1).f3)) = some r := H
      have A7 := Aside0.mk A70
      clear A70
      have H' := Aside0.mk H
      clear H
      have p427 : 0 ≤ (x8_1 : Int) := of_decide_eq_true (by first | (with_reducible assumption) | assumption)
      have q427 : x8_1 < (t424.length : Int) := of_decide_eq_true (by first | (with_reducible assumption) | assumption)
      obtain ⟨ad427, e427, hx427_0, hx427_1, hx427_2, hx427_3⟩ := at_T68 (Kd.R_reads' HO_6.out).2.2 x8_1 p427 q427
      cases e427
      replace p427 := eq_true p427
      replace q427 := eq_true q427
      go_wp2_with (first | ((with_reducible refine gate_dst (N := 3) rfl ?_); refine boxE 3 68 (#[.string (⟨#[]⟩ : ByteArray), .int .i64 0, .int .i64 0, .string (⟨#[]⟩ : ByteArray)]) ?_; intro gb428 hg w8 hbox hb; have n0_ := Aside0.mk (Kd.S_below (by (with_reducible repeat (first | apply Kd.S_alloc | apply Kd.S_drewN | apply Kd.S_drew)); exact HO_1.out) hb); have n1_ := Aside0.mk (Kd.R_below (Kd.R_elderB (by (with_reducible repeat (first | apply Kd.R_alloc | apply Kd.R_drewN | apply Kd.R_drew)); exact HO_6.out) gb428 (Nat.le_of_eq hg.symm)) hb); have n2_ := Aside0.mk (below_step (by repeat (first | (with_reducible first | exact HB.out | apply below_alloc | apply pw_below_drewN | apply below_drew1) | exact HB.out)) hb); have n3_ := Aside0.mk (hbox); have n4_ := Aside0.mk ((by rw [hg]; exact (below_size (by repeat (first | (with_reducible first | exact HB.out | apply below_alloc | apply pw_below_drewN | apply below_drew1) | exact HB.out))) : w.heap.size ≤ gb428)); have n5_ := Aside0.mk ((by rw [hg]; exact (below_size (by repeat (first | (with_reducible first | exact HB.out | apply below_alloc | apply pw_below_drewN | apply below_drew1) | exact HB.out))) : w.heap.size ≤ gb428)); clear HO_1; clear HO_6; clear HB; have HO_1 := n0_; have HO_6 := n1_; have HB := n2_; have BK428 := n3_; have GW428 := n4_; have GE428 := n5_; clear n0_ n1_ n2_ n3_ n4_ n5_; clear hb hbox hg; have hcz9_0 : w8.cell? ⟨gb428, 0, none⟩ = some (.string (⟨#[]⟩ : ByteArray)) := (blk_cell BK428.out 0).trans rfl; have hcz9_1 : w8.cell? ⟨gb428, 1, none⟩ = some (.int .i64 0) := (blk_cell BK428.out 1).trans rfl; have hcz9_2 : w8.cell? ⟨gb428, 2, none⟩ = some (.int .i64 0) := (blk_cell BK428.out 2).trans rfl; have hcz9_3 : w8.cell? ⟨gb428, 3, none⟩ = some (.string (⟨#[]⟩ : ByteArray)) := (blk_cell BK428.out 3).trans rfl; have hfz9_0 := blk_frozen BK428.out 0; have hfz9_1 := blk_frozen BK428.out 1; have hfz9_2 := blk_frozen BK428.out 2; have hfz9_3 := blk_frozen BK428.out 3) | ((with_reducible refine gate_callee (f := 27) rfl ?_); refine goesL_ (some 14) rfl rfl Tryz.func27 (by kernel_rfl) rfl #[.string ((rd_T68 t424 x8_1).f0)] rfl (by (try simp only [List.map_toArray, List.map_cons, List.map_nil]); first | done | rfl | (simp only [List.length_drop, List.length_take]; rfl) | (simp only [ByteArray.size_append, Int.natCast_add]; done) | (simp only [ByteArray.size_append, Int.natCast_add]; rfl) | (simp only [Array.mk.injEq, List.cons.injEq, Value.int.injEq, true_and, and_true]; (try simp only [mx, mn, wrap64] at *); omega)) ?_; (with_reducible refine (strings_Fields.calls ((rd_T68 t424 x8_1).f0) t429 _ A7.out (LaidAt hL0 (by repeat (first | (with_reducible first | exact HB.out | apply below_alloc | apply pw_below_drewN | apply below_drew1 | refine below_set ?_ GE428.out) | exact HB.out)))).mono ?_); rintro e w10 ⟨v430, rfl, ho0, hb⟩; refine ⟨_, rfl, ?_⟩; have n0_ := Aside0.mk (Kd.S_below (by (with_reducible repeat (first | apply Kd.S_alloc | apply Kd.S_drewN | apply Kd.S_drew)); exact (Kd.S_mono (Kd.S_far (p := ⟨gb428, 3, none⟩) (Kd.S_far (p := ⟨gb428, 2, none⟩) (Kd.S_far (p := ⟨gb428, 1, none⟩) (Kd.S_far (p := ⟨gb428, 0, none⟩) (Kd.S_types HO_1.out BK428.out (by decide)) (fun _ hk => hk.2) (.string ((rd_T68 t424 x8_1).f0))) (fun _ hk => hk.2) (.int .i64 ((rd_T68 t424 x8_1).f1))) (fun _ hk => hk.2) (.int .i64 ((rd_T68 t424 x8_1).f2))) (fun _ hk => hk.2) (.string ((rd_T68 t424 x8_1).f3))) (fun _ h_ => h_.1))) hb); have n1_ := Aside0.mk (Kd.R_below (by (with_reducible repeat (first | apply Kd.R_alloc | apply Kd.R_drewN | apply Kd.R_drew)); exact (Kd.R_mono (Kd.R_far (p := ⟨gb428, 3, none⟩) (Kd.R_far (p := ⟨gb428, 2, none⟩) (Kd.R_far (p := ⟨gb428, 1, none⟩) (Kd.R_far (p := ⟨gb428, 0, none⟩) (Kd.R_mono HO_6.out (fun k_ hk => (⟨hk, hk.2⟩ : _ ∧ k_ ≠ gb428))) (fun _ hk => hk.2) (.string ((rd_T68 t424 x8_1).f0))) (fun _ hk => hk.2) (.int .i64 ((rd_T68 t424 x8_1).f1))) (fun _ hk => hk.2) (.int .i64 ((rd_T68 t424 x8_1).f2))) (fun _ hk => hk.2) (.string ((rd_T68 t424 x8_1).f3))) (fun _ h_ => h_.1))) hb); have n2_ := Aside0.mk (Kd.R_lower ho0 (below_size (by repeat (first | (with_reducible first | exact HB.out | apply below_alloc | apply pw_below_drewN | apply below_drew1 | refine below_set ?_ GE428.out) | exact HB.out)))); have n3_ := Aside0.mk (blk_below (g := gb428) (o := .cells #[.string ((rd_T68 t424 x8_1).f0), .int .i64 ((rd_T68 t424 x8_1).f1), .int .i64 ((rd_T68 t424 x8_1).f2), .string ((rd_T68 t424 x8_1).f3)] 68 (0, 0)) (by (with_reducible repeat (first | refine blk_drewN ?_ _ | refine blk_drew ?_ | refine blk_alloc ?_ _)); refine put4 (.string (⟨#[]⟩ : ByteArray)) (.int .i64 0) (.int .i64 0) (.string (⟨#[]⟩ : ByteArray)) ?_; (with_reducible repeat (first | refine blk_drewN ?_ _ | refine blk_drew ?_ | refine blk_alloc ?_ _)); exact BK428.out) hb); have n4_ := Aside0.mk (below_step (by repeat (first | (with_reducible first | exact HB.out | apply below_alloc | apply pw_below_drewN | apply below_drew1 | refine below_set ?_ GE428.out) | exact HB.out)) hb); clear HO_1; clear HO_6; clear BK428; clear HB; have HO_1 := n0_; have HO_6 := n1_; have HO431 := n2_; have BK428 := n3_; have HB := n4_; clear n0_ n1_ n2_ n3_ n4_; (try clear hb); (try clear hb2); (try clear hk); (try clear hi); (try clear ho0); obtain ⟨Ao11, co11, eo11⟩ := Kd.R_slice HO431.out; subst eo11))
      go_loopg [1, 16] k1 (fun kq v1 v16 w' => ∃ (x1_2 : List (S24)) (x16_2 : Int), v16 = .int .i64 x16_2 ∧ Aside0 (forms_All.l1 kq x1_2 t424 (t424.length : Int) x8_1 t429 (t429.length : Int) x16_2 ((rd_T68 t424 x8_1).f0) ((rd_T68 t424 x8_1).f1) ((rd_T68 t424 x8_1).f2) ((rd_T68 t424 x8_1).f3) = some r) ∧ Aside0 (kq ≤ k1) ∧ Aside0 (Kd.S k24 24 w' w.heap.size (fun _ => True) v1 x1_2) ∧ Aside0 (Kd.R k68 68 w' w.heap.size (fun k_ => k_ ≠ gb428) (.slice (some ad427) t424.length co3) t424) ∧ Aside0 (Kd.R Kd.string 9 w' w.heap.size (fun _ => True) (.slice Ao11 t429.length co11) t429) ∧ Aside0 (w'.heap[gb428]? = some (.cells #[.string ((rd_T68 t424 x8_1).f0), .int .i64 ((rd_T68 t424 x8_1).f1), .int .i64 ((rd_T68 t424 x8_1).f2), .string ((rd_T68 t424 x8_1).f3)] 68 (0, 0))) ∧ Aside0 (Below w.heap.size w w'))
      case atStart => exact ⟨(x1_1), (0), (rflS), H', ⟨Nat.le_refl _⟩, ⟨by (with_reducible repeat (first | apply Kd.S_alloc | apply Kd.S_drewN | apply Kd.S_drew)); exact HO_1.out⟩, ⟨by (with_reducible repeat (first | apply Kd.R_alloc | apply Kd.R_drewN | apply Kd.R_drew)); exact Kd.R_mono HO_6.out (fun _ hk => hk.2)⟩, ⟨by (with_reducible repeat (first | apply Kd.R_alloc | apply Kd.R_drewN | apply Kd.R_drew)); exact HO431.out⟩, ⟨by (with_reducible repeat (first | refine blk_drewN ?_ _ | refine blk_drew ?_ | refine blk_alloc ?_ _)); exact BK428.out⟩, ⟨by repeat (first | (with_reducible first | exact HB.out | apply below_alloc | apply pw_below_drewN | apply below_drew1 | refine below_set ?_ GE428.out) | exact HB.out)⟩⟩
      case round =>
       clear H'
       try clear c2
       try clear p2
       try clear c4
       try clear c4b0
       try clear p4
       try clear q4
       try clear hx4
       try clear c5
       try clear c5b0
       try clear c6
       try clear c6b0
       try clear p6
       try clear hcz9_0
       try clear hcz9_1
       try clear hcz9_2
       try clear hcz9_3
       try clear hfz9_0
       try clear hfz9_1
       try clear hfz9_2
       try clear hfz9_3
       try clear hx427_0
       try clear hx427_1
       try clear hx427_2
       try clear hx427_3
       try clear p2
       try clear p427
       try clear q427
       obtain ⟨x1_2, x16_2, rfl, HA, HK2, HO_1, HO_6, HO_14, BK428, HB⟩ := hrel
       cases gk with
       | zero => exact absurd HA.out (by simp [forms_All.l1])
       | succ k2 =>
        have H := HA.out
        clear HA
        simp only [forms_All.l1] at H
        by_cases c12 : x16_2 < (t429.length : Int)
        ·rw [if_pos c12] at H
         have c12b0 : decide (x16_2 < (t429.length : Int)) = true := decide_eq_true c12
         clear c12
         by_cases c13 : 0 ≤ x16_2
         ·rw [if_pos c13] at H
          have c13b0 : decide (0 ≤ x16_2) = true := decide_eq_true c13
          clear c13
          by_cases c14 : x16_2 < (t429.length : Int)
          ·rw [if_pos c14] at H
           have c14b0 : decide (x16_2 < (t429.length : Int)) = true := decide_eq_true c14
           clear c14
           replace H := Option.bind_eq_some_iff.mp H
           obtain ⟨⟨t433, t434, t435, t436⟩, A150, H⟩ := H
           replace H : (if x1_2.length < 2513169434916 then (forms_All.l1 k2 (x1_2 ++ [(⟨t433, t434, t435, t436⟩ : S24)]) t424 (t424.length : Int) x8_1 t429 (t429.length : Int) (wrap64 (x16_2 + 1)) ((rd_T68 t424 x8_1).f0) ((rd_T68 t424 x8_1).f1) ((rd_T68 t424 x8_1).f2) ((rd_T68 t424 x8_1).f3)) else (none)) = some r := H
           have A15 := Aside0.mk A150
           clear A150
           by_cases c16 : x1_2.length < 2513169434916
           ·rw [if_pos c16] at H
            have LMc16 := Aside0.mk c16
            clear c16
            obtain ⟨y439, hy439⟩ : ∃ y_ : List (S24), y_ = (x1_2 ++ [(⟨t433, t434, t435, t436⟩ : S24)]) := ⟨_, rfl⟩
            replace H : (forms_All.l1 k2 y439 t424 (t424.length : Int) x8_1 t429 (t429.length : Int) (wrap64 (x16_2 + 1)) ((rd_T68 t424 x8_1).f0) ((rd_T68 t424 x8_1).f1) ((rd_T68 t424 x8_1).f2) ((rd_T68 t424 x8_1).f3)) = some r := by first | (rw [hy439]; with_reducible exact H) | (have H2_ := (Option.bind_some _ _).symm.trans H; rw [hy439]; with_reducible exact H2_) | (have H2_ := (Option.bind_some _ _).symm.trans H; with_reducible exact H2_) | with_reducible exact H | (rw [hy439]; exact H) | exact H
            have Ny439 := Aside0.mk hy439
            clear hy439
            have H' := Aside0.mk H
            clear H
            have p432 : 0 ≤ (x16_2 : Int) := of_decide_eq_true (by first | (with_reducible assumption) | assumption)
            have q432 : x16_2 < (t429.length : Int) := of_decide_eq_true (by first | (with_reducible assumption) | assumption)
            obtain ⟨ad432, e432, hx432_0⟩ := Kd.at_string (Kd.R_reads' HO_14.out).2.2 x16_2 p432 q432
            cases e432
            replace p432 := eq_true p432
            replace q432 := eq_true q432
            have hcz17_0 : wr.cell? ⟨gb428, 0, none⟩ = some (.string ((rd_T68 t424 x8_1).f0)) := (blk_cell BK428.out 0).trans rfl
            have hcz17_1 : wr.cell? ⟨gb428, 1, none⟩ = some (.int .i64 ((rd_T68 t424 x8_1).f1)) := (blk_cell BK428.out 1).trans rfl
            have hcz17_2 : wr.cell? ⟨gb428, 2, none⟩ = some (.int .i64 ((rd_T68 t424 x8_1).f2)) := (blk_cell BK428.out 2).trans rfl
            have hcz17_3 : wr.cell? ⟨gb428, 3, none⟩ = some (.string ((rd_T68 t424 x8_1).f3)) := (blk_cell BK428.out 3).trans rfl
            have hfz17_0 := blk_frozen BK428.out 0
            have hfz17_1 := blk_frozen BK428.out 1
            have hfz17_2 := blk_frozen BK428.out 2
            have hfz17_3 := blk_frozen BK428.out 3
            go_wp2_with (first | ((with_reducible refine gate_callee (f := 28) rfl ?_); refine goesL_ (some 23) rfl rfl Tryz.func28 (by kernel_rfl) rfl #[.agg #[.string ((rd_T68 t424 x8_1).f0), .int .i64 ((rd_T68 t424 x8_1).f1), .int .i64 ((rd_T68 t424 x8_1).f2), .string ((rd_T68 t424 x8_1).f3)], .string (rdOf ByteArray.empty t429 x16_2)] rfl (by (try simp only [List.map_toArray, List.map_cons, List.map_nil]); first | done | rfl | (simp only [List.length_drop, List.length_take]; rfl) | (simp only [ByteArray.size_append, Int.natCast_add]; done) | (simp only [ByteArray.size_append, Int.natCast_add]; rfl) | (simp only [Array.mk.injEq, List.cons.injEq, Value.int.injEq, true_and, and_true]; (try simp only [mx, mn, wrap64] at *); omega)) ?_; (with_reducible refine (forms_group_form.calls k2 ((rd_T68 t424 x8_1).f0) ((rd_T68 t424 x8_1).f1) ((rd_T68 t424 x8_1).f2) ((rd_T68 t424 x8_1).f3) (rdOf ByteArray.empty t429 x16_2) t433 t434 t435 t436 _ A15.out).mono ?_); rintro e w18 ⟨v437, rfl, ho0, hb⟩; refine ⟨_, rfl, ?_⟩; have n0_ := Aside0.mk (Kd.S_elder' (by (with_reducible repeat (first | apply Kd.S_alloc | apply Kd.S_drewN | apply Kd.S_drew)); exact HO_1.out) (Kd.R_base ho0) hb); have n1_ := Aside0.mk (Kd.R_below (by (with_reducible repeat (first | apply Kd.R_alloc | apply Kd.R_drewN | apply Kd.R_drew)); exact HO_6.out) hb); have n2_ := Aside0.mk (Kd.R_below (by (with_reducible repeat (first | apply Kd.R_alloc | apply Kd.R_drewN | apply Kd.R_drew)); exact HO_14.out) hb); have n3_ := Aside0.mk (Kd.R_lower ho0 (below_size (by repeat (first | (with_reducible first | exact HB.out | apply below_alloc | apply pw_below_drewN | apply below_drew1 | refine below_set ?_ GE428.out) | exact HB.out)))); have n4_ := Aside0.mk (blk_below (g := gb428) (o := .cells #[.string ((rd_T68 t424 x8_1).f0), .int .i64 ((rd_T68 t424 x8_1).f1), .int .i64 ((rd_T68 t424 x8_1).f2), .string ((rd_T68 t424 x8_1).f3)] 68 (0, 0)) (by (with_reducible repeat (first | refine blk_drewN ?_ _ | refine blk_drew ?_ | refine blk_alloc ?_ _)); exact BK428.out) hb); have n5_ := Aside0.mk (below_step (by repeat (first | (with_reducible first | exact HB.out | apply below_alloc | apply pw_below_drewN | apply below_drew1 | refine below_set ?_ GE428.out) | exact HB.out)) hb); clear HO_1; clear HO_6; clear HO_14; clear BK428; clear HB; have HO_1 := n0_; have HO_6 := n1_; have HO_14 := n2_; have HO438 := n3_; have BK428 := n4_; have HB := n5_; clear n0_ n1_ n2_ n3_ n4_ n5_; (try clear hb); (try clear hb2); (try clear hk); (try clear hi); (try clear ho0); obtain ⟨Ao20, co20, eo20⟩ := Kd.R_slice HO438.out; subst eo20) | ((with_reducible refine gate_builtin (b := .append) (xs := #[.tmp 20, .tmp 24]) rfl ?_); at_builtin; refine Kd.S_append k24 (w0 := w) w.heap.size rfl (.tmp 20) (.tmp 24) 60 24 (.agg #[(.string ⟨#[]⟩), (.int .i64 0), (.int .i64 0), (.slice none 0 0)]) 56 rfl Tryz.underlying60 info24 rfl (by decide) (by omega) u1 x1_2 (⟨t433, t434, t435, t436⟩ : S24) [.string t433, .int .i64 t434, .int .i64 t435, .slice Ao20 t436.length co20] (fun _ => True) (fun k_ => some k_ = (.slice Ao20 t436.length co20 : Value).ownBlock) rfl rfl ?aP (fun k_ hk_ => ((Kd.R_mono (ok' := fun k_ => ((fun _ => True)) k_ ∧ some k_ ≠ (u1 : Value).ownBlock) (Kd.R_apart' (HO438.out) (Kd.S_typed HO_1.out) (by decide)) (fun k_ hk => ⟨trivial, hk.2⟩))).1 k_ hk_.symm) ?aF ?aO ?aB ?aS ?aL ?_; (case aP => exact k24_mkM _ _ _ (⟨t433, t434, t435, t436⟩ : S24) (Kd.R_mono (Kd.R_tight rfl (Kd.R_mono (ok' := fun k_ => ((fun _ => True)) k_ ∧ some k_ ≠ (u1 : Value).ownBlock) (Kd.R_apart' (HO438.out) (Kd.S_typed HO_1.out) (by decide)) (fun k_ hk => ⟨trivial, hk.2⟩))) (fun _ h_ => h_))); (case aB => exact (by repeat (first | (with_reducible first | exact HB.out | apply below_alloc | apply pw_below_drewN | apply below_drew1 | refine below_set ?_ GE428.out) | exact HB.out))); (case aF => exact (fun _ _ => trivial)); (case aO => exact (by (with_reducible repeat (first | apply Kd.S_alloc | apply Kd.S_drewN | apply Kd.S_drew)); exact Kd.S_mono HO_1.out (fun k_ hk => ⟨trivial, fun e_ => hk.2 e_⟩))); (case aS => exact (below_size (by repeat (first | (with_reducible first | exact HB.out | apply below_alloc | apply pw_below_drewN | apply below_drew1 | refine below_set ?_ GE428.out) | exact HB.out)))); (case aL => have := LMc16.out; omega); intro v440 w19 ho hb hg hat; rw [← Ny439.out] at ho; have n0_ := Aside0.mk (Kd.R_over' (by (with_reducible repeat (first | apply Kd.R_alloc | apply Kd.R_drewN | apply Kd.R_drew)); exact HO_6.out) (Kd.S_typed (by (with_reducible repeat (first | apply Kd.S_alloc | apply Kd.S_drewN | apply Kd.S_drew)); exact HO_1.out)) (by decide) hg); have n1_ := Aside0.mk (Kd.R_over' (by (with_reducible repeat (first | apply Kd.R_alloc | apply Kd.R_drewN | apply Kd.R_drew)); exact HO_14.out) (Kd.S_typed (by (with_reducible repeat (first | apply Kd.S_alloc | apply Kd.S_drewN | apply Kd.S_drew)); exact HO_1.out)) (by decide) hg); have n2_ := Aside0.mk (blk_grown (g := gb428) (o := .cells #[.string ((rd_T68 t424 x8_1).f0), .int .i64 ((rd_T68 t424 x8_1).f1), .int .i64 ((rd_T68 t424 x8_1).f2), .string ((rd_T68 t424 x8_1).f3)] 68 (0, 0)) (by (with_reducible repeat (first | refine blk_drewN ?_ _ | refine blk_drew ?_ | refine blk_alloc ?_ _)); exact BK428.out) hg (Kd.S_ne HO_1.out BK428.out (by decide))); have n3_ := Aside0.mk (hb); have n4_ := Aside0.mk (ho); clear HO_6; clear HO_14; clear BK428; clear HB; clear HO_1; clear HO438; have HO_6 := n0_; have HO_14 := n1_; have BK428 := n2_; have HB := n3_; have HO441 := n4_; clear n0_ n1_ n2_ n3_ n4_; clear ho hb hg hat))
            go_roundg k2
            case measure => have := HK1.out; have := HK2.out; omega
            case rel => exact ⟨(y439), (wrap64 (x16_2 + 1)), (rflS), H', ⟨by have := HK1.out; have := HK2.out; omega⟩, ⟨by (with_reducible repeat (first | apply Kd.S_alloc | apply Kd.S_drewN | apply Kd.S_drew)); exact HO441.out⟩, ⟨by (with_reducible repeat (first | apply Kd.R_alloc | apply Kd.R_drewN | apply Kd.R_drew)); exact HO_6.out⟩, ⟨by (with_reducible repeat (first | apply Kd.R_alloc | apply Kd.R_drewN | apply Kd.R_drew)); exact HO_14.out⟩, ⟨by (with_reducible repeat (first | refine blk_drewN ?_ _ | refine blk_drew ?_ | refine blk_alloc ?_ _)); exact BK428.out⟩, ⟨by repeat (first | (with_reducible first | exact HB.out | apply below_alloc | apply pw_below_drewN | apply below_drew1 | refine below_set ?_ GE428.out) | exact HB.out)⟩⟩
           ·rw [if_neg c16] at H
            exact absurd H (by simp)
          ·rw [if_neg c14] at H
           exact absurd H (by simp)
         ·rw [if_neg c13] at H
          exact absurd H (by simp)
        ·rw [if_neg c12] at H
         have c12b0 : decide (x16_2 < (t429.length : Int)) = false := decide_eq_false c12
         clear c12
         have H' := Aside0.mk H
         clear H
         go_wp2
         go_roundg k2
         case measure => have := HK1.out; have := HK2.out; omega
         case rel => exact ⟨(x1_2), (wrap64 (x8_1 + 1)), (rflS), H', ⟨by have := HK1.out; have := HK2.out; omega⟩, ⟨by (with_reducible repeat (first | apply Kd.S_alloc | apply Kd.S_drewN | apply Kd.S_drew)); exact HO_1.out⟩, ⟨by (with_reducible repeat (first | apply Kd.R_alloc | apply Kd.R_drewN | apply Kd.R_drew)); exact Kd.R_mono HO_6.out (fun _ hk => trivial)⟩, ⟨by repeat (first | (with_reducible first | exact HB.out | apply below_alloc | apply pw_below_drewN | apply below_drew1 | refine below_set ?_ GE428.out) | exact HB.out)⟩⟩
     ·rw [if_neg c6] at H
      exact absurd H (by simp)
    ·rw [if_neg c5] at H
     exact absurd H (by simp)
   ·rw [if_neg c4] at H
    have c4b0 : decide (x8_1 < (t424.length : Int)) = false := decide_eq_false c4
    clear c4
    obtain rfl := Option.some.inj H
    have HN := Aside0.mk hne
    clear hne
    go_wp2_with (go_at_call 45; (with_reducible refine (sorted_calls w (fun _ => True) _ x1_1 _ HB.out (Kd.S_R HO_1.out) HN.out hl).mono ?_); rintro e w2 ⟨L, rfl, hp, hs, hr, hb⟩; have HP := Aside0.mk hp; have HS := Aside0.mk hs; have HR := Aside0.mk hr; have HB2 := Aside0.mk hb; clear hp hs hr hb)
    go_ret
    exact ⟨_, L, rfl, HP.out, HS.out, HR.out, HB2.out⟩
end Go.Proofs.YtopdjokncbpghaaGreatDoor.Pr
end
