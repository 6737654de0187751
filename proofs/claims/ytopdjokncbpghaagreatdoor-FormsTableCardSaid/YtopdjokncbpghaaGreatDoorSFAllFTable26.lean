/-
  Lemmas for the law FAllFTable.
-/
import Derived.Test.YtopdjokncbpghaaGreatDoorSFAllFTable15
import Derived.Test.YtopdjokncbpghaaGreatDoorSFAllFTable25
set_option maxHeartbeats 8000000
set_option maxRecDepth 100000
set_option linter.unusedVariables false
set_option linter.unusedSimpArgs false
section
namespace Go.Proofs.YtopdjokncbpghaaGreatDoor.Pr
open Go.RowKit Go.Proofs.YtopdjokncbpghaaGreatDoorW.PrintWords Go.Proofs.YtopdjokncbpghaaGreatDoorW.PrintLast Go.Proofs.YtopdjokncbpghaaGreatDoorW.PrintMore
theorem results_tcR {P : Program} {fn : Func} {p u : Tmp} {ty : TypeId} (h : fn.results = #[.tmp u, .cell p ty]) (tmps : Array Value) (w : World) (g : Nat) (t : TypeId) (cs : Array Value) (fr : Nat × Nat) (d : TypeDesc)
  (hp : tmps.getD p undef = .pointer (some ⟨g, 0, none⟩)) (hg : w.heap[g]? = some (.cells cs t fr))
  (hu : P.underlying ty = some d) (hd : (match d with | .struct _ | .array _ _ => true | _ => false) = true) (hi : (P.info? ty).map (·.size) = some cs.size) :
  (results fn tmps).run P w = .ok (.tuple #[tmps.getD u undef, .agg cs]) w := results_tc h tmps w g t cs fr d hp hg hu hd hi
theorem partRun {P : Program} {w : World} {g : Nat} {t ty : TypeId} {old cs : Array Value} {fr : Nat × Nat} {d : TypeDesc} {a : Act} {oi : Oper} {x : Operand} (rest : List Value) (ho : oi.op = .load ty x) (hx : a.eval x = .pointer (some ⟨g, 0, none⟩)) (hg : w.heap[g]? = some (.cells old t fr)) (hp : old.toList = cs.toList ++ rest)
  (hu : P.underlying ty = some d) (hd : (match d with | .struct _ | .array _ _ => true | _ => false) = true) (hi : (P.info? ty).map (·.size) = some cs.size) : (execOp a.eval oi).run P w = .ok (.value (.agg cs)) w := by
 unfold execOp
 rw [ho]
 simp only [hx, Sem.run_bind, partLd rest hg hp hu hd hi, Result.andThen_ok, Sem.run_pure]
theorem kid_FKP {W : World} {P : Nat → Prop} {A : Option Addr} {c : Nat} (n : Nd) (h : KidsP W P A c n.f5) : Kd.FK k44 W P n (nodeA n A c).toList := fun W' hW => k44_mk W' n h.1 (h.2 W' hW)
def list6.T6 : Bool × List (List Nat × List Nat) := (true, [([], []), ([], []), ([0, 1, 0, 1], [0])])
def list6.B6 : List Nat := [0, 0, 3]
theorem list6.tab6 : rtab .any (opsOf Tryz.f117 6) = list6.T6 := by kernel_rfl
theorem list6.bits6 : waitsOk list6.T6.2 list6.B6 = true := by kernel_rfl
theorem list_empty (l : List Tk) (i : Int) (A : Option Addr) (c : Nat) (w : World) (HT : Aside0 (TokC w A c l)) (HI : Aside0 (foolscapref08_is.f l i ⟨#[41]⟩ = some true)) (hi : i < l.length) (h0 : 0 ≤ i) :
  Calls Tryz.prog 117 #[.slice A l.length c, .int .i64 i] w (ListOut [] ⟨zeroN, i + 1, false⟩ w) := by
 have HB := Aside0.mk (bel1 w (.cells Z18 116))
 have B5 := Aside0.mk (newBlk w (.cells Z18 116))
 have hmax := HT.out.2.2.1
 go_enter Tryz.func117, Tryz.ntmps117
 go_wp2_with (first
  | (go_at_call 94; (with_reducible refine (foolscapref08_is.calls _ _ _ _ _ _ _ (HT.out.below HB.out).2 HT.out.1 HI.out).mono ?_); clear HI; rintro e wn ⟨rfl, nd, rfl⟩; have D5 := Aside0.mk (blk_drewN B5.out (nd)); have DB := Aside0.mk (pw_below_drewN HB.out (nd)))
  | ((with_reducible refine gate_store (t := 116) (p := 5) (v := .tmp 13) rfl ?_); refine wpRowSt rfl 116 (.tmp 5) (.tmp 13) rfl (w.heap.size) #[.int .i64 0, .int .i64 0, .int .i64 0, .string ⟨#[]⟩, .bool false, .int .i64 0, .int .i64 0, .int .i64 0, .bool false, .bool false, .int .i64 0, .int .i64 0, .bool false, .bool false, .string ⟨#[]⟩, .slice none 0 0, .int .i64 (i + 1), .bool false] rfl rfl 116 _ (D5.out) (by kernel_rfl) rfl rfl ?_))
 refine bodyPost_ret (results_tcR rfl _ _ (w.heap.size) 116 #[.int .i64 0, .int .i64 0, .int .i64 0, .string ⟨#[]⟩, .bool false, .int .i64 0, .int .i64 0, .int .i64 0, .bool false, .bool false, .int .i64 0, .int .i64 0, .bool false, .bool false, .string ⟨#[]⟩, .slice none 0 0, .int .i64 (i + 1), .bool false] (0, 0) _ rfl (setRow_heap _ _ _ _ _ _ (D5.out)) Tryz.underlying116 rfl (by kernel_rfl)) rfl ?_
 exact ⟨none, 0, none, 0, rfl, kidsF_nil _ _ _ _, kidsF_nil _ _ _ _, rowBelow DB.out (Nat.le_refl _) _⟩
theorem list_loop (k : Nat) (l : List Tk) (i : Int) (L : List Nd) (R : Rd) (A : Option Addr) (c : Nat) (w : World) (HT : Aside0 (TokC w A c l)) (HI : Aside0 (foolscapref08_is.f l i ⟨#[41]⟩ = some false))
  (HR : Aside0 (∀ (m : Nat) (j : Int) (q : Rd) (W : World), m ≤ k → readS m l j 0 = some q → Below w.heap.size w W → Calls Tryz.prog 70 #[.slice A l.length c, .int .i64 j, .int .i64 0] W (ReadOut q W))) (HA0 : Aside0 (listL k l i [] = some (L, R))) :
  Calls Tryz.prog 117 #[.slice A l.length c, .int .i64 i] w (ListOut L R w) := by
 have HB := Aside0.mk (bel1 w (.cells Z18 116))
 have B5 := Aside0.mk (newBlk w (.cells Z18 116))
 have hmax := HT.out.2.2.1
 go_enter Tryz.func117, Tryz.ntmps117
 go_wp2_with (first
  | (go_at_call 94; (with_reducible refine (foolscapref08_is.calls _ _ _ _ _ _ _ (HT.out.below HB.out).2 HT.out.1 HI.out).mono ?_); clear HI; rintro e wn ⟨rfl, nd, rfl⟩; have D5 := Aside0.mk (blk_drewN B5.out (nd)); have DB := Aside0.mk (pw_below_drewN HB.out (nd))))
 go_loopg [1, 6] k (fun kq v1 v6 w' => ∃ (j : Int) (out : List Nd), v1 = .int .i64 j ∧ Aside0 (Kd.N k44 44 w' w.heap.size (fun z => w.heap.size + 1 ≤ z) v6 out) ∧ Aside0 (listL kq l j out = some (L, R)) ∧ Aside0 (kq ≤ k) ∧ Aside0 (Below w.heap.size w w') ∧ Aside0 (w'.heap[w.heap.size]? = some (.cells Z18 116 (0, 0))))
 case atStart => exact ⟨i, [], rfl, ⟨Kd.N_nil _ _ _ _ _⟩, HA0, ⟨Nat.le_refl _⟩, DB, D5⟩
 case round =>
  clear HA0 HB B5 DB D5
  obtain ⟨j, out, rfl, HN, HA, HK1, HB, B5⟩ := hrel
  cases gk with
  | zero => exact absurd HA.out (by simp [listL])
  | succ k1 =>
   have HAo := HA.out
   rw [listL] at HAo
   clear HA
   have hr1 : ∃ q, readS k1 l j 0 = some q := by
    cases hq : readS k1 l j 0 with
    | none => rw [hq] at HAo; cases HAo
    | some q => exact ⟨q, rfl⟩
   obtain ⟨q, hq⟩ := hr1
   rw [hq] at HAo
   simp only [Option.bind_some] at HAo
   have HRc := Aside0.mk fun (W : World) (h : Below w.heap.size w W) => HR.out k1 j q W (by have := HK1.out; omega) hq h
   clear hq
   obtain ⟨rn, ri, rb⟩ := q
   simp only at HAo
   cases rb with
   | true =>
    simp only [if_true] at HAo
    obtain ⟨rfl, rfl⟩ := Prod.mk.inj (Option.some.inj HAo)
    clear HAo
    go_wp2_with (first
     | (go_at_call 70; (with_reducible refine (HRc.out _ HB.out).mono ?_); clear HRc; rintro e w3 ⟨A3, c3, rfl, hF, hb⟩; have q5 := blk_lt B5.out; have HF3 := Aside0.mk (KidsP.mono (KidsP.bnd hF) (Q := fun k => (w.heap.size + 1 ≤ k ∧ some k ≠ u6.ownBlock) ∧ k < w3.heap.size) (fun k hk => ⟨⟨Nat.lt_of_lt_of_le q5 hk.1, fun he => absurd (Kd.N_lt HN.out _ he.symm) (Nat.not_lt.mpr hk.1)⟩, hk.2⟩)); have HB3 := Aside0.mk (below_step HB.out hb); have C5 := Aside0.mk (blk_below B5.out hb); have hlt := blk_lt C5.out; have HN3 := Aside0.mk (Kd.N_below HN.out hb); have hsz := hb.size; clear hb hF)
     | ((with_reducible refine gate_store (t := 116) (p := 7) (v := .tmp 16) rfl ?_); refine wpRowSt rfl 116 (.tmp 7) (.tmp 16) rfl (w3.heap.size) (rdA rn A3 c3 ri true) rfl rfl 116 _ (newBlk w3 _) (by kernel_rfl) rfl rfl ?_; have H7 := Aside0.mk (setRow_heap _ _ _ (rdA rn A3 c3 ri true) _ _ (newBlk w3 (.cells Z18 116))); have V5 := Aside0.mk (rowOther (rdA rn A3 c3 ri true) (blk_alloc C5.out (.cells Z18 116)) (g := w3.heap.size) (by omega)); have VB := Aside0.mk (rowBelow (below_alloc HB3.out (.cells Z18 116)) (show w.heap.size ≤ w3.heap.size by omega) (rdA rn A3 c3 ri true)); have VN := Aside0.mk (Kd.N_mono (Kd.N_step (Kd.N_alloc (Kd.N_bound HN3.out) (.cells Z18 116)) (w1 := (w3.alloc (.cells Z18 116)).setRow w3.heap.size (rdA rn A3 c3 ri true)) (fun z hz _ => setRow_other _ _ z _ (by have := hz.2; omega))) (fun _ h => h.1)); have VF := Aside0.mk (KidsP.mono (KidsP.row (KidsP.below HF3.out (bel1 w3 (.cells Z18 116))) w3.heap.size (rdA rn A3 c3 ri true) (fun k hk => by have := hk.2; omega)) (fun k hk => hk.1)); have h7c := fun i => blk_cell H7.out i))
    refine start_ (n := 3) (S := (fun w' => w'.heap[w3.heap.size]? = some (.cells (rdA rn A3 c3 ri true) 116 (0, 0)))) (ds := [2]) #[false, false, false] (by kernel_rfl) rfl rfl (blk_drew H7.out) (fun hHeld => ?_)
    refine with_tabW list6.tab6 list6.bits6 (fun HT_ HW_ => ?_)
    refine pz 1 4 HT_ ?_
    refine tz 0 19 HT_ HW_ (hr := (by rintro w' s0; exact partRun (cs := (rdA rn A3 c3 ri true)) [] rfl rfl s0 rfl Tryz.underlying116 rfl (by kernel_rfl))) (hS := hHeld) (h := ?_)
    refine lastI 2 none HT_ rfl rfl (by kernel_rfl) (by decide) (fun K hK => ?_)
    refine skip_ (by rfl) rfl (rowSkip (ty := 116) (x := .tmp 5) (y := .tmp 19) (g := w.heap.size) (cs := (rdA rn A3 c3 ri true)) rfl rfl rfl (blk_drew V5.out) (by kernel_rfl) rfl rfl) ?_
    refine hK.out _ _ ?_
    clear hK K
    -- norm_
    refine done_ (done_of HT_.out (by kernel_rfl)) ?_
    go_wp2
    refine bodyPost_ret (results_tcR rfl _ _ (w.heap.size) 116 (rdA rn A3 c3 ri true) (0, 0) _ rfl (setRow_heap _ _ _ _ _ _ (blk_drew V5.out)) Tryz.underlying116 rfl (by kernel_rfl)) rfl ?_
    exact ⟨none, 0, A3, c3, rfl, kidsF_nil _ _ _ _, KidsP.mono (KidsP.row (KidsP.below (KidsP.row (KidsP.below HF3.out (bel1 w3 _)) w3.heap.size _ (fun k hk => by have := hk.2; omega)) (below_drew1 (Below.refl _ _))) w.heap.size _ (fun k hk => by have h1 := hk.1.1; omega)) (fun k hk => by have h1 := hk.1.1; show w.heap.size ≤ k; omega), rowBelow (below_drew1 VB.out) (Nat.le_refl _) _⟩
   | false =>
    simp only [Bool.false_eq_true, if_false] at HAo
    by_cases hol : 4096 ≤ out.length
    ·rw [if_pos hol] at HAo; cases HAo
    rw [if_neg hol] at HAo
    have hr2 : ∃ b, isS l ri [41] = some b := by
     cases hq : isS l ri [41] with
     | none => rw [hq] at HAo; cases HAo
     | some b => exact ⟨b, rfl⟩
    obtain ⟨b, hb1⟩ := hr2
    rw [hb1] at HAo
    simp only [Option.bind_some] at HAo
    have hri := is_range hb1
    have hw : wrap64 (ri + 1) = ri + 1 := by unfold wrap64; omega
    rw [hw] at HAo
    have HJ := Aside0.mk (show foolscapref08_is.f l ri ⟨#[41]⟩ = some b from hb1)
    clear hb1
    cases b with
    | true =>
     rw [if_pos rfl] at HAo
     obtain ⟨rfl, rfl⟩ := Prod.mk.inj (Option.some.inj HAo)
     clear HAo
     go_wp2_with (first
      | (go_at_call 70; (with_reducible refine (HRc.out _ HB.out).mono ?_); clear HRc; rintro e w3 ⟨A3, c3, rfl, hF, hb⟩; have q5 := blk_lt B5.out; have HF3 := Aside0.mk (KidsP.mono (KidsP.bnd hF) (Q := fun k => (w.heap.size + 1 ≤ k ∧ some k ≠ u6.ownBlock) ∧ k < w3.heap.size) (fun k hk => ⟨⟨Nat.lt_of_lt_of_le q5 hk.1, fun he => absurd (Kd.N_lt HN.out _ he.symm) (Nat.not_lt.mpr hk.1)⟩, hk.2⟩)); have HB3 := Aside0.mk (below_step HB.out hb); have C5 := Aside0.mk (blk_below B5.out hb); have hlt := blk_lt C5.out; have HN3 := Aside0.mk (Kd.N_below HN.out hb); have hsz := hb.size; clear hb hF)
      | ((with_reducible refine gate_store (t := 116) (p := 7) (v := .tmp 16) rfl ?_); refine wpRowSt rfl 116 (.tmp 7) (.tmp 16) rfl (w3.heap.size) (rdA rn A3 c3 ri false) rfl rfl 116 _ (newBlk w3 _) (by kernel_rfl) rfl rfl ?_; have H7 := Aside0.mk (setRow_heap _ _ _ (rdA rn A3 c3 ri false) _ _ (newBlk w3 (.cells Z18 116))); have V5 := Aside0.mk (rowOther (rdA rn A3 c3 ri false) (blk_alloc C5.out (.cells Z18 116)) (g := w3.heap.size) (by omega)); have VB := Aside0.mk (rowBelow (below_alloc HB3.out (.cells Z18 116)) (show w.heap.size ≤ w3.heap.size by omega) (rdA rn A3 c3 ri false)); have VN := Aside0.mk (Kd.N_mono (Kd.N_step (Kd.N_alloc (Kd.N_bound HN3.out) (.cells Z18 116)) (w1 := (w3.alloc (.cells Z18 116)).setRow w3.heap.size (rdA rn A3 c3 ri false)) (fun z hz _ => setRow_other _ _ z _ (by have := hz.2; omega))) (fun _ h => h.1)); have VF := Aside0.mk (KidsP.mono (KidsP.row (KidsP.below HF3.out (bel1 w3 (.cells Z18 116))) w3.heap.size (rdA rn A3 c3 ri false) (fun k hk => by have := hk.2; omega)) (fun k hk => hk.1)); have h7c := fun i => blk_cell H7.out i; have HZ5 := Aside0.mk (size_setRow (w3.alloc (.cells Z18 116)) w3.heap.size (rdA rn A3 c3 ri false)); generalize (w3.alloc (.cells Z18 116)).setRow w3.heap.size (rdA rn A3 c3 ri false) = w5 at H7 V5 VB VN VF h7c HZ5 ⊢)
      | ((with_reducible refine gate_dst (N := 22) rfl ?_); refine wpPartLd 22 rfl rfl 44 (.tmp 21) rfl (w3.heap.size) rfl _ (nodeA rn A3 c3) [.int .i64 ri, .bool false] (H7.out) rfl Tryz.underlying44 rfl (by kernel_rfl) ?_)
      | (at_builtin; refine Kd.N_append k44 (w0 := w) w.heap.size rfl (.tmp 20) (.tmp 23) 42 44 (.agg #[(.int .i64 0), (.int .i64 0), (.int .i64 0), (.string ⟨#[]⟩), (.bool false), (.int .i64 0), (.int .i64 0), (.int .i64 0), (.bool false), (.bool false), (.int .i64 0), (.int .i64 0), (.bool false), (.bool false), (.string ⟨#[]⟩), (.slice none 0 0)]) 144 rfl Tryz.underlying42 info44 rfl (by decide) (by omega) _ out rn (nodeA rn A3 c3).toList (fun z => w.heap.size + 1 ≤ z) (fun z => w.heap.size + 1 ≤ z ∧ some z ≠ u6.ownBlock) rfl rfl (kid_FKP _ VF.out) ?aK ?aF VN.out VB.out ?aS ?aL ?_; (case aK => exact fun z hz => ⟨hz.1, hz.2⟩); (case aF => exact fun z hz => by have h5 := blk_lt V5.out; have h6 : w5.heap.size ≤ z := hz; omega); (case aS => exact (below_size VB.out)); (case aL => omega); intro v1 w4 ho hb2 hg hat; have HN2 := Aside0.mk ho; have HB2 := Aside0.mk hb2; have HG2 := Aside0.mk hg; clear ho hb2 hg hat; have G7 := Aside0.mk (blk_grown H7.out HG2.out (fun he => by have h1 := Kd.N_lt HN.out _ he.symm; omega)); have G5 := Aside0.mk (blk_grown V5.out HG2.out (fun he => by have h1 := HN.out.1 _ he.symm; omega)); have hg7 := fun i => blk_cell G7.out i)
      | (go_at_call 94; (with_reducible refine (foolscapref08_is.calls _ _ _ _ _ _ _ (HT.out.below HB2.out).2 HT.out.1 HJ.out).mono ?_); clear HJ; rintro e wn ⟨rfl, nd, rfl⟩; have I5 := Aside0.mk (blk_drewN G5.out (nd)); have IB := Aside0.mk (pw_below_drewN HB2.out (nd)); have IN := Aside0.mk (Kd.N_drewN HN2.out (nd)))
      | ((with_reducible refine gate_store (t := 116) (p := 5) (v := .tmp 33) rfl ?_); refine wpRowSt rfl 116 (.tmp 5) (.tmp 33) rfl (w.heap.size) #[.int .i64 0, .int .i64 0, .int .i64 0, .string ⟨#[]⟩, .bool false, .int .i64 0, .int .i64 0, .int .i64 0, .bool false, .bool false, .int .i64 0, .int .i64 0, .bool false, .bool false, .string ⟨#[]⟩, .slice none 0 0, .int .i64 (ri + 1), .bool false] rfl rfl 116 _ (I5.out) (by kernel_rfl) rfl rfl ?_))
     obtain ⟨A8, c8, rfl⟩ := Kd.N_slice IN.out
     refine bodyPost_ret (results_tcR rfl _ _ (w.heap.size) 116 #[.int .i64 0, .int .i64 0, .int .i64 0, .string ⟨#[]⟩, .bool false, .int .i64 0, .int .i64 0, .int .i64 0, .bool false, .bool false, .int .i64 0, .int .i64 0, .bool false, .bool false, .string ⟨#[]⟩, .slice none 0 0, .int .i64 (ri + 1), .bool false] (0, 0) _ rfl (setRow_heap _ _ _ _ _ _ (I5.out)) Tryz.underlying116 rfl (by kernel_rfl)) rfl ?_
     exact ⟨A8, c8, none, 0, rfl, ⟨(Kd.N_reads' IN.out).2.1, Kd.F_mono (Kd.F_step (Kd.N_F IN.out) (fun z hz _ => setRow_other _ _ z _ (by omega))) (fun z hz => by omega)⟩, kidsF_nil _ _ _ _, rowBelow IB.out (Nat.le_refl _) _⟩
    | false =>
     rw [if_neg (by simp)] at HAo
     have hr3 : ∃ b, isS l ri [44] = some b := by
      cases hq : isS l ri [44] with
      | none => rw [hq] at HAo; cases HAo
      | some b => exact ⟨b, rfl⟩
     obtain ⟨b, hb2⟩ := hr3
     rw [hb2] at HAo
     simp only [Option.bind_some] at HAo
     have HJ2 := Aside0.mk (show foolscapref08_is.f l ri ⟨#[44]⟩ = some b from hb2)
     clear hb2
     cases b with
     | true =>
      rw [if_pos rfl] at HAo
      have HA2 := Aside0.mk HAo
      clear HAo
      go_wp2_with (first
       | (go_at_call 70; (with_reducible refine (HRc.out _ HB.out).mono ?_); clear HRc; rintro e w3 ⟨A3, c3, rfl, hF, hb⟩; have q5 := blk_lt B5.out; have HF3 := Aside0.mk (KidsP.mono (KidsP.bnd hF) (Q := fun k => (w.heap.size + 1 ≤ k ∧ some k ≠ u6.ownBlock) ∧ k < w3.heap.size) (fun k hk => ⟨⟨Nat.lt_of_lt_of_le q5 hk.1, fun he => absurd (Kd.N_lt HN.out _ he.symm) (Nat.not_lt.mpr hk.1)⟩, hk.2⟩)); have HB3 := Aside0.mk (below_step HB.out hb); have C5 := Aside0.mk (blk_below B5.out hb); have hlt := blk_lt C5.out; have HN3 := Aside0.mk (Kd.N_below HN.out hb); have hsz := hb.size; clear hb hF)
       | ((with_reducible refine gate_store (t := 116) (p := 7) (v := .tmp 16) rfl ?_); refine wpRowSt rfl 116 (.tmp 7) (.tmp 16) rfl (w3.heap.size) (rdA rn A3 c3 ri false) rfl rfl 116 _ (newBlk w3 _) (by kernel_rfl) rfl rfl ?_; have H7 := Aside0.mk (setRow_heap _ _ _ (rdA rn A3 c3 ri false) _ _ (newBlk w3 (.cells Z18 116))); have V5 := Aside0.mk (rowOther (rdA rn A3 c3 ri false) (blk_alloc C5.out (.cells Z18 116)) (g := w3.heap.size) (by omega)); have VB := Aside0.mk (rowBelow (below_alloc HB3.out (.cells Z18 116)) (show w.heap.size ≤ w3.heap.size by omega) (rdA rn A3 c3 ri false)); have VN := Aside0.mk (Kd.N_mono (Kd.N_step (Kd.N_alloc (Kd.N_bound HN3.out) (.cells Z18 116)) (w1 := (w3.alloc (.cells Z18 116)).setRow w3.heap.size (rdA rn A3 c3 ri false)) (fun z hz _ => setRow_other _ _ z _ (by have := hz.2; omega))) (fun _ h => h.1)); have VF := Aside0.mk (KidsP.mono (KidsP.row (KidsP.below HF3.out (bel1 w3 (.cells Z18 116))) w3.heap.size (rdA rn A3 c3 ri false) (fun k hk => by have := hk.2; omega)) (fun k hk => hk.1)); have h7c := fun i => blk_cell H7.out i; have HZ5 := Aside0.mk (size_setRow (w3.alloc (.cells Z18 116)) w3.heap.size (rdA rn A3 c3 ri false)); generalize (w3.alloc (.cells Z18 116)).setRow w3.heap.size (rdA rn A3 c3 ri false) = w5 at H7 V5 VB VN VF h7c HZ5 ⊢)
       | ((with_reducible refine gate_dst (N := 22) rfl ?_); refine wpPartLd 22 rfl rfl 44 (.tmp 21) rfl (w3.heap.size) rfl _ (nodeA rn A3 c3) [.int .i64 ri, .bool false] (H7.out) rfl Tryz.underlying44 rfl (by kernel_rfl) ?_)
       | (at_builtin; refine Kd.N_append k44 (w0 := w) w.heap.size rfl (.tmp 20) (.tmp 23) 42 44 (.agg #[(.int .i64 0), (.int .i64 0), (.int .i64 0), (.string ⟨#[]⟩), (.bool false), (.int .i64 0), (.int .i64 0), (.int .i64 0), (.bool false), (.bool false), (.int .i64 0), (.int .i64 0), (.bool false), (.bool false), (.string ⟨#[]⟩), (.slice none 0 0)]) 144 rfl Tryz.underlying42 info44 rfl (by decide) (by omega) _ out rn (nodeA rn A3 c3).toList (fun z => w.heap.size + 1 ≤ z) (fun z => w.heap.size + 1 ≤ z ∧ some z ≠ u6.ownBlock) rfl rfl (kid_FKP _ VF.out) ?aK ?aF VN.out VB.out ?aS ?aL ?_; (case aK => exact fun z hz => ⟨hz.1, hz.2⟩); (case aF => exact fun z hz => by have h5 := blk_lt V5.out; have h6 : w5.heap.size ≤ z := hz; omega); (case aS => exact (below_size VB.out)); (case aL => omega); intro v1 w4 ho hb2 hg hat; have HN2 := Aside0.mk ho; have HB2 := Aside0.mk hb2; have HG2 := Aside0.mk hg; clear ho hb2 hg hat; have G7 := Aside0.mk (blk_grown H7.out HG2.out (fun he => by have h1 := Kd.N_lt HN.out _ he.symm; omega)); have G5 := Aside0.mk (blk_grown V5.out HG2.out (fun he => by have h1 := HN.out.1 _ he.symm; omega)); have hg7 := fun i => blk_cell G7.out i)
       | (go_at_call 94; (with_reducible refine (foolscapref08_is.calls _ _ _ _ _ _ _ (HT.out.below HB2.out).2 HT.out.1 HJ.out).mono ?_); clear HJ; rintro e wn ⟨rfl, nd, rfl⟩; have I5 := Aside0.mk (blk_drewN G5.out (nd)); have IB := Aside0.mk (pw_below_drewN HB2.out (nd)); have IN := Aside0.mk (Kd.N_drewN HN2.out (nd)))
       | (go_at_call 94; (with_reducible refine (foolscapref08_is.calls _ _ _ _ _ _ _ (HT.out.below IB.out).2 HT.out.1 HJ2.out).mono ?_); clear HJ2; rintro e wn ⟨rfl, nd2, rfl⟩; have J5 := Aside0.mk (blk_drewN G5.out (nd + nd2)); have JB := Aside0.mk (pw_below_drewN HB2.out (nd + nd2)); have JN := Aside0.mk (Kd.N_drewN HN2.out (nd + nd2))))
      go_roundg k1
      case measure => have := HK1.out; omega
      case rel => exact ⟨ri + 1, out ++ [rn], by first | rfl | (simp; done), JN, HA2, ⟨by have := HK1.out; omega⟩, JB, J5⟩
     | false =>
      rw [if_neg (by simp)] at HAo
      obtain ⟨rfl, rfl⟩ := Prod.mk.inj (Option.some.inj HAo)
      clear HAo
      go_wp2_with (first
       | (go_at_call 70; (with_reducible refine (HRc.out _ HB.out).mono ?_); clear HRc; rintro e w3 ⟨A3, c3, rfl, hF, hb⟩; have q5 := blk_lt B5.out; have HF3 := Aside0.mk (KidsP.mono (KidsP.bnd hF) (Q := fun k => (w.heap.size + 1 ≤ k ∧ some k ≠ u6.ownBlock) ∧ k < w3.heap.size) (fun k hk => ⟨⟨Nat.lt_of_lt_of_le q5 hk.1, fun he => absurd (Kd.N_lt HN.out _ he.symm) (Nat.not_lt.mpr hk.1)⟩, hk.2⟩)); have HB3 := Aside0.mk (below_step HB.out hb); have C5 := Aside0.mk (blk_below B5.out hb); have hlt := blk_lt C5.out; have HN3 := Aside0.mk (Kd.N_below HN.out hb); have hsz := hb.size; clear hb hF)
       | ((with_reducible refine gate_store (t := 116) (p := 7) (v := .tmp 16) rfl ?_); refine wpRowSt rfl 116 (.tmp 7) (.tmp 16) rfl (w3.heap.size) (rdA rn A3 c3 ri false) rfl rfl 116 _ (newBlk w3 _) (by kernel_rfl) rfl rfl ?_; have H7 := Aside0.mk (setRow_heap _ _ _ (rdA rn A3 c3 ri false) _ _ (newBlk w3 (.cells Z18 116))); have V5 := Aside0.mk (rowOther (rdA rn A3 c3 ri false) (blk_alloc C5.out (.cells Z18 116)) (g := w3.heap.size) (by omega)); have VB := Aside0.mk (rowBelow (below_alloc HB3.out (.cells Z18 116)) (show w.heap.size ≤ w3.heap.size by omega) (rdA rn A3 c3 ri false)); have VN := Aside0.mk (Kd.N_mono (Kd.N_step (Kd.N_alloc (Kd.N_bound HN3.out) (.cells Z18 116)) (w1 := (w3.alloc (.cells Z18 116)).setRow w3.heap.size (rdA rn A3 c3 ri false)) (fun z hz _ => setRow_other _ _ z _ (by have := hz.2; omega))) (fun _ h => h.1)); have VF := Aside0.mk (KidsP.mono (KidsP.row (KidsP.below HF3.out (bel1 w3 (.cells Z18 116))) w3.heap.size (rdA rn A3 c3 ri false) (fun k hk => by have := hk.2; omega)) (fun k hk => hk.1)); have h7c := fun i => blk_cell H7.out i; have HZ5 := Aside0.mk (size_setRow (w3.alloc (.cells Z18 116)) w3.heap.size (rdA rn A3 c3 ri false)); generalize (w3.alloc (.cells Z18 116)).setRow w3.heap.size (rdA rn A3 c3 ri false) = w5 at H7 V5 VB VN VF h7c HZ5 ⊢)
       | ((with_reducible refine gate_dst (N := 22) rfl ?_); refine wpPartLd 22 rfl rfl 44 (.tmp 21) rfl (w3.heap.size) rfl _ (nodeA rn A3 c3) [.int .i64 ri, .bool false] (H7.out) rfl Tryz.underlying44 rfl (by kernel_rfl) ?_)
       | (at_builtin; refine Kd.N_append k44 (w0 := w) w.heap.size rfl (.tmp 20) (.tmp 23) 42 44 (.agg #[(.int .i64 0), (.int .i64 0), (.int .i64 0), (.string ⟨#[]⟩), (.bool false), (.int .i64 0), (.int .i64 0), (.int .i64 0), (.bool false), (.bool false), (.int .i64 0), (.int .i64 0), (.bool false), (.bool false), (.string ⟨#[]⟩), (.slice none 0 0)]) 144 rfl Tryz.underlying42 info44 rfl (by decide) (by omega) _ out rn (nodeA rn A3 c3).toList (fun z => w.heap.size + 1 ≤ z) (fun z => w.heap.size + 1 ≤ z ∧ some z ≠ u6.ownBlock) rfl rfl (kid_FKP _ VF.out) ?aK ?aF VN.out VB.out ?aS ?aL ?_; (case aK => exact fun z hz => ⟨hz.1, hz.2⟩); (case aF => exact fun z hz => by have h5 := blk_lt V5.out; have h6 : w5.heap.size ≤ z := hz; omega); (case aS => exact (below_size VB.out)); (case aL => omega); intro v1 w4 ho hb2 hg hat; have HN2 := Aside0.mk ho; have HB2 := Aside0.mk hb2; have HG2 := Aside0.mk hg; clear ho hb2 hg hat; have G7 := Aside0.mk (blk_grown H7.out HG2.out (fun he => by have h1 := Kd.N_lt HN.out _ he.symm; omega)); have G5 := Aside0.mk (blk_grown V5.out HG2.out (fun he => by have h1 := HN.out.1 _ he.symm; omega)); have hg7 := fun i => blk_cell G7.out i)
       | (go_at_call 94; (with_reducible refine (foolscapref08_is.calls _ _ _ _ _ _ _ (HT.out.below HB2.out).2 HT.out.1 HJ.out).mono ?_); clear HJ; rintro e wn ⟨rfl, nd, rfl⟩; have I5 := Aside0.mk (blk_drewN G5.out (nd)); have IB := Aside0.mk (pw_below_drewN HB2.out (nd)); have IN := Aside0.mk (Kd.N_drewN HN2.out (nd)))
       | (go_at_call 94; (with_reducible refine (foolscapref08_is.calls _ _ _ _ _ _ _ (HT.out.below IB.out).2 HT.out.1 HJ2.out).mono ?_); clear HJ2; rintro e wn ⟨rfl, nd2, rfl⟩; have J5 := Aside0.mk (blk_drewN G5.out (nd + nd2)); have JB := Aside0.mk (pw_below_drewN HB2.out (nd + nd2)); have JN := Aside0.mk (Kd.N_drewN HN2.out (nd + nd2)))
       | ((with_reducible refine gate_store (t := 116) (p := 5) (v := .tmp 39) rfl ?_); refine wpRowSt rfl 116 (.tmp 5) (.tmp 39) rfl (w.heap.size) #[.int .i64 0, .int .i64 0, .int .i64 0, .string ⟨#[]⟩, .bool false, .int .i64 0, .int .i64 0, .int .i64 0, .bool false, .bool false, .int .i64 0, .int .i64 0, .bool false, .bool false, .string ⟨#[]⟩, .slice none 0 0, .int .i64 ri, .bool true] rfl rfl 116 _ (J5.out) (by kernel_rfl) rfl rfl ?_))
      refine bodyPost_ret (results_tcR rfl _ _ (w.heap.size) 116 #[.int .i64 0, .int .i64 0, .int .i64 0, .string ⟨#[]⟩, .bool false, .int .i64 0, .int .i64 0, .int .i64 0, .bool false, .bool false, .int .i64 0, .int .i64 0, .bool false, .bool false, .string ⟨#[]⟩, .slice none 0 0, .int .i64 ri, .bool true] (0, 0) _ rfl (setRow_heap _ _ _ _ _ _ (J5.out)) Tryz.underlying116 rfl (by kernel_rfl)) rfl ?_
      exact ⟨none, 0, none, 0, rfl, kidsF_nil _ _ _ _, kidsF_nil _ _ _ _, rowBelow JB.out (Nat.le_refl _) _⟩
theorem list_step (k : Nat) (hR : ∀ m, m ≤ k → ReadLaw m) : ListLaw (k + 1) := by
 intro l i L R A c w hT h
 rw [listS] at h
 cases hb : isS l i [41] with
 | none => rw [hb] at h; cases h
 | some b =>
  rw [hb] at h
  simp only [Option.bind_some] at h
  have hr := is_range hb
  have hm := hT.2.2.1
  have hw : wrap64 (i + 1) = i + 1 := by unfold wrap64; omega
  cases b with
  | true =>
   rw [if_pos rfl, hw] at h
   obtain ⟨rfl, rfl⟩ := Prod.mk.inj (Option.some.inj h)
   exact list_empty l i A c w ⟨hT⟩ ⟨hb⟩ hr.2 hr.1
  | false =>
   rw [if_neg (by simp)] at h
   exact list_loop k l i L R A c w ⟨hT⟩ ⟨hb⟩ ⟨fun m j q W hm hq hW => hR m hm l j 0 q A c W (hT.below hW) hq⟩ ⟨h⟩
theorem read_step (k : Nat) (hR : ∀ m, m ≤ k → ReadLaw m) (hS : SingleLaw k) : ReadLaw (k + 1) := by
 intro l i line R A c w hT h
 rw [readS] at h
 by_cases h5 : line = 5
 ·rw [if_pos h5] at h
  subst h5
  exact read_five l i R A c w ⟨fun W hW => hS l i R A c W (hT.below hW) h⟩
 rw [if_neg h5] at h
 by_cases h4 : line = 4
 ·rw [if_pos h4] at h
  subst h4
  cases hb : isS l i [45] with
  | none => rw [hb] at h; cases h
  | some b =>
   rw [hb] at h
   simp only [Option.bind_some] at h
   cases b with
   | false =>
    rw [if_neg (by simp)] at h
    exact read_plus l i R A c w ⟨hT⟩ ⟨hb⟩ ⟨fun W hW => hR k (Nat.le_refl _) l i 5 R A c W (hT.below hW) h⟩
   | true =>
    rw [if_pos rfl] at h
    cases hq : readS k l (wrap64 (i + 1)) 4 with
    | none => rw [hq] at h; cases h
    | some r =>
     rw [hq] at h
     obtain rfl := Option.some.inj h
     exact read_minus l i r A c w ⟨hT⟩ ⟨hb⟩ ⟨fun W hW => hR k (Nat.le_refl _) l _ 4 r A c W (hT.below hW) hq⟩
 ·rw [if_neg h4] at h
  cases hq : readS k l i (wrap64 (line + 1)) with
  | none => rw [hq] at h; cases h
  | some r =>
   rw [hq] at h
   simp only [Option.bind_some] at h
   exact read_line k l i line r R A c w ⟨hT⟩ h5 h4 ⟨fun W hW => hR k (Nat.le_refl _) l i _ r A c W (hT.below hW) hq⟩ ⟨fun j q m W hm hq hW => hR m hm l j _ q A c W (hT.below hW) hq⟩ ⟨h⟩
theorem reads_all (k : Nat) : ∀ m, m ≤ k → ReadLaw m ∧ SingleLaw m ∧ ListLaw m := by
 induction k with
 | zero =>
  intro m hm
  obtain rfl : m = 0 := by omega
  refine ⟨fun l i line R A c w _ h => ?_, fun l i R A c w _ h => ?_, fun l i L R A c w _ h => ?_⟩
  ·rw [readS] at h; cases h
  ·rw [singleS] at h; cases h
  ·rw [listS] at h; cases h
 | succ k ih =>
  intro m hm
  by_cases h : m ≤ k
  ·exact ih m h
  ·obtain rfl : m = k + 1 := by omega
   have hk := ih k (Nat.le_refl _)
   exact ⟨read_step k (fun m hm => (ih m hm).1) hk.2.1, single_step k hk.1 hk.2.2, list_step k (fun m hm => (ih m hm).1)⟩
theorem read_calls (k : Nat) (l : List Tk) (i line : Int) (R : Rd) (A : Option Addr) (c : Nat) (w : World) (hT : TokC w A c l) (h : readS k l i line = some R) : Calls Tryz.prog 70 #[.slice A l.length c, .int .i64 i, .int .i64 line] w (ReadOut R w) := (reads_all k k (Nat.le_refl _)).1 l i line R A c w hT h
def NodeInt2Out (n : Nd) (i j : Int) (w : World) (e : Ending) (w' : World) : Prop := ∃ A c, e = .returned (.tuple #[nodeV n A c, .int .i64 i, .int .i64 j]) ∧ KidsF w' w.heap.size A c n.f5 ∧ Below w.heap.size w w'
theorem parse_ok (ks k : Nat) (s : ByteArray) (l : List Tk) (a i d : Int) (n : Nd) (t : Tk) (w : World) (HSc : Aside0 (foolscapref07_Scan.f ks s = some (l, a, 0))) (HRd : Aside0 (readS k l 0 0 = some ⟨n, i, false⟩)) (ht : tokS l i = some t) (k0 : t.f0 = 0) (HD : Aside0 (depthI n = d)) (hd0 : ¬d = 0) (hd1 : ¬d > 40) :
  Calls Tryz.prog 51 #[.string s] w (NodeInt2Out n 0 0 w) := by
 obtain ⟨hrng, htt⟩ := tok_range ht
 have p1 := eq_true hrng.1
 have p2 := eq_true hrng.2
 have k0b : (t.f0 == 0) = true := by simp [k0]
 have k0c : (t.f0 != 0) = false := by simp [k0]
 have hdb : (d == 0) = false := by simp [hd0]
 clear k0 ht
 go_enter Tryz.func51, Tryz.ntmps51
 go_wp2_with (first
  | (go_at_call 69; (with_reducible refine (foolscapref07_Scan.calls _ _ _ _ _ _ HSc.out).mono ?_); rintro e w1 ⟨v0, rfl, hR, hb⟩; obtain ⟨A, c, rfl, hle, hC⟩ := Kd.R_reads hR; have HT1 := Aside0.mk (show TokC w1 A c l from ⟨hle, hC⟩); have hmax := hC.2.1; have HB1 := Aside0.mk (below_step (bel1 w _) hb); have B2 := Aside0.mk (blk_below (newBlk w _) hb); clear hb hR hC)
  | (go_at_call 70; (with_reducible refine (read_calls k l 0 0 _ A c _ HT1.out HRd.out).mono ?_); rintro e w2 ⟨A3, c3, rfl, hF, hb⟩; have q2 := blk_lt B2.out; have HF3 := Aside0.mk (KidsP.mono (KidsP.bnd hF) (Q := fun k => w.heap.size < k ∧ k < w2.heap.size) (fun k hk => ⟨Nat.lt_of_lt_of_le q2 hk.1, hk.2⟩)); have HB2 := Aside0.mk (below_step HB1.out hb); have C2 := Aside0.mk (blk_below B2.out hb); have HT2 := Aside0.mk (HT1.out.below hb); have hlt := blk_lt C2.out; clear hb hF)
  | ((with_reducible refine gate_store (t := 116) (p := 8) (v := .tmp 21) rfl ?_); refine wpRowSt rfl 116 (.tmp 8) (.tmp 21) rfl (w2.heap.size) (rdA n A3 c3 i false) rfl rfl 116 _ (newBlk w2 _) (by kernel_rfl) rfl rfl ?_; have H8 := Aside0.mk (setRow_heap _ _ _ (rdA n A3 c3 i false) _ _ (newBlk w2 (.cells Z18 116))); have V2 := Aside0.mk (rowOther (rdA n A3 c3 i false) (blk_alloc C2.out (.cells Z18 116)) (g := w2.heap.size) (by omega)); have VB := Aside0.mk (rowBelow (below_alloc HB2.out (.cells Z18 116)) (show w.heap.size ≤ w2.heap.size by omega) (rdA n A3 c3 i false)); have VK := Aside0.mk (KidsP.row (KidsP.below HF3.out (bel1 w2 (.cells Z18 116))) w2.heap.size (rdA n A3 c3 i false) (fun k hk => by have := hk.2; omega)); have VT := Aside0.mk (HT2.out.below (rowBelow (bel1 w2 (.cells Z18 116)) (Nat.le_refl _) (rdA n A3 c3 i false))); generalize (w2.alloc (.cells Z18 116)).setRow w2.heap.size (rdA n A3 c3 i false) = w5 at H8 V2 VB VK VT ⊢; have hc8 := fun i => blk_cell H8.out i; obtain ⟨ad, eA, x0, x1, x2, x3, x4, x5, x6, x7, x8, x9, x10, x11⟩ := at_T120 VT.out.2 i hrng.1 hrng.2; rw [htt] at x0; clear x1 x2 x3 x4 x5 x6 x7 x8 x9 x10 x11; cases eA)
  | ((with_reducible refine gate_dst (N := 41) rfl ?_); refine wpPartLd 41 rfl rfl 44 (.tmp 40) rfl (w2.heap.size) rfl _ (nodeA n A3 c3) [.int .i64 i, .bool false] (H8.out) rfl Tryz.underlying44 rfl (by kernel_rfl) ?_)
  | (go_at_call 33; (with_reducible refine (Depth_calls n A3 c3 _ ⟨VK.out.1, Kd.F_now VK.out.2⟩).mono ?_); rintro e w6 ⟨rfl, hb⟩; rw [HD.out]; have HB6 := Aside0.mk (below_step VB.out hb); have J8 := Aside0.mk (blk_below H8.out hb); have J2 := Aside0.mk (blk_below V2.out hb); have JK := Aside0.mk (KidsP.below VK.out hb); have hj8 := fun i => blk_cell J8.out i; clear VK hb hc8)
  | (go_at_call 33; (with_reducible refine (Depth_calls n A3 c3 _ ⟨JK.out.1, Kd.F_now JK.out.2⟩).mono ?_); rintro e w7 ⟨rfl, hb⟩; rw [HD.out]; have HB7 := Aside0.mk (below_step HB6.out hb); have L8 := Aside0.mk (blk_below J8.out hb); have L2 := Aside0.mk (blk_below J2.out hb); have LK := Aside0.mk (KidsP.below JK.out hb); clear JK hb)
  | ((with_reducible refine gate_dst (N := 52) rfl ?_); refine wpPartLd 52 rfl rfl 44 (.tmp 51) rfl (w2.heap.size) rfl _ (nodeA n A3 c3) [.int .i64 i, .bool false] (L8.out) rfl Tryz.underlying44 rfl (by kernel_rfl) ?_)
  | ((with_reducible refine gate_store (t := 44) (p := 2) (v := .tmp 52) rfl ?_); refine wpRowSt rfl 44 (.tmp 2) (.tmp 52) rfl (w.heap.size) (nodeA n A3 c3) rfl rfl 44 _ L2.out (by kernel_rfl) rfl rfl ?_))
 refine bodyPost_ret (results_ctt rfl _ _ (w.heap.size) 44 (nodeA n A3 c3) (0, 0) _ rfl (setRow_heap _ _ _ _ _ _ L2.out) Tryz.underlying44 rfl (by kernel_rfl)) rfl ?_
 exact ⟨A3, c3, rfl, KidsP.mono (KidsP.row LK.out _ _ (fun k hk => by have := hk.1; omega)) (fun k hk => by have := hk.1; show w.heap.size ≤ k; omega), rowBelow HB7.out (Nat.le_refl _) _⟩
theorem of_calls (s : ByteArray) (n : Nd) (w : World) (HP : Aside0 (∀ W, Calls Tryz.prog 51 #[.string s] W (NodeInt2Out n 0 0 W))) :
  Calls Tryz.prog 32 #[.string s] w (NodeOut n w) := by
 go_enter Tryz.func32, Tryz.ntmps32
 go_wp2_with (first
  | (go_at_call 51; (with_reducible refine (HP.out _).mono ?_); rintro e w1 ⟨A3, c3, rfl, hF, hb⟩; have q2 := blk_lt (newBlk w (.cells Z16 44)); have HF3 := Aside0.mk (KidsP.mono (KidsP.bnd hF) (Q := fun k => w.heap.size < k ∧ k < w1.heap.size) (fun k hk => ⟨Nat.lt_of_lt_of_le q2 hk.1, hk.2⟩)); have HB1 := Aside0.mk (below_step (bel1 w _) hb); have B2 := Aside0.mk (blk_below (newBlk w _) hb); have hlt := blk_lt B2.out; clear hb hF)
  | ((with_reducible refine gate_store (t := 44) (p := 3) (v := .tmp 9) rfl ?_); refine wpRowSt rfl 44 (.tmp 3) (.tmp 9) rfl (w1.heap.size) (nodeA n A3 c3) rfl rfl 44 _ (newBlk w1 _) (by kernel_rfl) rfl rfl ?_)
  | ((with_reducible refine gate_dst (N := 12) rfl ?_); refine wpPartLd 12 rfl rfl 44 (.tmp 3) rfl (w1.heap.size) rfl _ (nodeA n A3 c3) [] (setRow_heap _ _ _ (nodeA n A3 c3) _ _ (newBlk w1 _)) rfl Tryz.underlying44 rfl (by kernel_rfl) ?_)
  | ((with_reducible refine gate_store (t := 44) (p := 2) (v := .tmp 12) rfl ?_); refine wpRowSt rfl 44 (.tmp 2) (.tmp 12) rfl (w.heap.size) (nodeA n A3 c3) rfl rfl 44 _ (rowOther _ (blk_alloc B2.out _) (g := w1.heap.size) (by omega)) (by kernel_rfl) rfl rfl ?_))
 refine bodyPost_ret (results_cell_row rfl _ _ (w.heap.size) 44 (nodeA n A3 c3) (0, 0) _ rfl (setRow_heap _ _ _ _ _ _ (rowOther _ (blk_alloc B2.out _) (g := w1.heap.size) (by omega))) Tryz.underlying44 rfl (by kernel_rfl)) rfl ?_
 exact ⟨A3, c3, rfl, KidsP.mono (KidsP.row (KidsP.row (KidsP.below HF3.out (bel1 w1 _)) _ _ (fun k hk => by have := hk.2; omega)) _ _ (fun k hk => by have := hk.1; omega)) (fun k hk => by have := hk.1; show w.heap.size ≤ k; omega), rowBelow (rowBelow (below_alloc HB1.out _) (by omega) _) (Nat.le_refl _) _⟩
end Go.Proofs.YtopdjokncbpghaaGreatDoor.Pr
end
