/-
  Lemmas for the law LexScansLexPairs.
-/
import Derived.Test.YtmppnobldhhpjaaGreatDoorSLexScansLexPairs18
import Derived.Test.YtmppnobldhhpjaaGreatDoorSLexScansLexPairs10
import Derived.Test.YtmppnobldhhpjaaGreatDoorSLexScansLexPairs6
import Derived.Lib.BufSteps
import Derived.Lib.BufferRead
import Derived.Lib.FrozenHead2
section
namespace Go.Proofs.YtmppnobldhhpjaaGreatDoor.Pr
set_option linter.unusedVariables false
set_option linter.unusedSimpArgs false
open Go.RowKit Go.Proofs.YtmppnobldhhpjaaGreatDoorW.PrintWords Go.Proofs.YtmppnobldhhpjaaGreatDoorW.PrintLast Go.Proofs.YtmppnobldhhpjaaGreatDoorW.PrintMore
theorem rowSkip {P : Program} {W : World} {g : Nat} {t ty : TypeId} {old cs : Array Value} {a : Act} {oi : Oper} {x y : Operand} (ho : oi.op = .store ty x y) (hx : a.eval x = .pointer (some ⟨g, 0, none⟩)) (hy : a.eval y = .agg cs)
    (hg : W.heap[g]? = some (.cells old t (0, 0))) (hi : (P.info? ty).map (·.size) = some cs.size) (hs : old.size = cs.size) (h1 : cs.toList.all (·.oneCell') = true) :
    (execOp a.eval oi).run P W = .ok .skip (W.setRow g cs) := by
  unfold execOp
  rw [ho]
  simp only [hx, hy]
  simp only [Sem.run_bind, rowSt hg hi hs h1, Result.andThen_ok, Sem.run_pure]
theorem info_u8 : (Tryz.prog.info? 5).map (fun i => (i.zero, i.size, i.bytes)) = some (some (.int .u8 0), 1, 1) := by kernel_rfl
section
variable {P : Program} {ops : Array Oper} {Q : Exit → Act → World → Prop}
theorem val_ {oi : Oper} {N : Option Tmp} {a : Act} {w w1 : World} {K : Act → World → Prop} {v : Value} (hw : Region.wanted oi (yielded ops a.tmps) = true) (hN : oi.dst = N) (hrun : (execOp a.eval oi).run P w = .ok (.value v) w1)
    (h : K (a.put N v) w1) : if Region.wanted oi (yielded ops a.tmps) = true then Oper.wp P oi a w K Q else K (a.put N undef) w := by
  rw [if_pos hw]
  unfold Oper.wp
  rw [hrun]
  subst hN
  exact h
theorem app_byte_ {oi : Oper} {N : Option Tmp} {a : Act} {w0 : World} {K : Act → World → Prop} (hw : Region.wanted oi (yielded ops a.tmps) = true) (hN : oi.dst = N) (s x : Operand) (t : TypeId)
    (ho : oi.op = .call { callee := .builtin .append, args := #[s, x], argTypes := #[t, t] })
    (B : Nat) (e : TypeId) (i : TypeInfo) (ht : P.underlying t = some (.slice e)) (hi : P.info? e = some i) (hz : i.zero = some (.int .u8 0)) (hsize : i.size = 1) (hby : i.bytes = 1)
    (v : Value) (n : Nat) (xs : List Value) (hs : a.eval s = v) (W0 : World) (c : Int) (hb : Lib.OwnBuf B e v n xs W0 w0)
    (hx : a.eval x = .slice (some ⟨w0.heap.size, 0, none⟩) 1 1) (hlen : n + 1 ≤ 140737488355328)
    (h : ∀ v' w', Lib.OwnBuf B e v' (n + 1) (xs ++ [.int .u8 c]) W0 w' → K (a.put N v') w') :
    if Region.wanted oi (yielded ops a.tmps) = true then Oper.wp P oi a (w0.alloc (.cells #[.int .u8 c] e)) K Q else K (a.put N undef) (w0.alloc (.cells #[.int .u8 c] e)) := by
  rw [if_pos hw]
  have hb' := hb.alloc (.cells #[.int .u8 c] e)
  obtain ⟨v', w', hr, h2, h3, _⟩ := run_append_ownF (P := P) (w := w0.alloc (.cells #[.int .u8 c] e)) B t oi.type e i (.int .u8 0) 1 1 ht hi hz hsize hby rfl (by decide) v n xs hb'.1 ⟨w0.heap.size, 0, none⟩ 1 1 [.int .u8 c] rfl
    (by
      intro j u hj
      match j, hj with
      | 0, hj => simp at hj; subst hj; simp [Addr.add]
      | (j + 1), hj => simp at hj)
    (by intro u hu; simp at hu; subst hu; rfl) (by unfold maxLen; omega) (by omega) hb'.2.2
  unfold Oper.wp execOp
  simp only [ho, resolve, invoke, builtin, Sem.run_bind, Sem.run_pure, Result.andThen_ok, List.map_toArray, List.map_cons, List.map_nil, hs, hx, hr]
  subst hN
  exact h v' w' (hb'.grown h2 h3)
end
theorem buf_slice {B : Nat} {e : TypeId} {v : Value} {n : Nat} {xs : List Value} {W0 w : World} (h : Lib.OwnBuf B e v n xs W0 w) : ∃ A c, v = .slice A n c := by
  rcases h.1.2 with ⟨rfl, rfl⟩ | ⟨g, cap, cur, fz, rfl, _⟩
  · exact ⟨_, _, rfl⟩
  · exact ⟨_, _, rfl⟩
theorem strCells_bl (l : List UInt8) : Lib.strCells (bl l) = Lib.byteCells l := by
  unfold Lib.strCells Lib.byteCells bl
  rfl
theorem byteCells_append (a b : List UInt8) : Lib.byteCells a ++ Lib.byteCells b = Lib.byteCells (a ++ b) := by simp [Lib.byteCells]
theorem slice_inj {A A' : Option Addr} {n n' c c' : Nat} (h : Value.slice A n c = .slice A' n' c') : A = A' ∧ n = n' ∧ c = c' := by
  cases h
  exact ⟨rfl, rfl, rfl⟩
theorem buf_conv {B : Nat} {A : Option Addr} {n c : Nat} {l : List UInt8} {w : World} (hn : l.length = n) (h : w.ownsRowF B 5 1 (.slice A n c) n (Lib.byteCells l)) :
    (convert 31 9 (.slice A n c)).run Tryz.prog w = .ok (.string (bl l)) w := by
  subst hn
  rcases h.2 with ⟨h1, h2⟩ | ⟨g, cap, cur, fz, h1, _, hg, _, _, _, _, htk⟩
  · obtain ⟨e1, _, e3⟩ := slice_inj h1
    subst e1
    subst e3
    obtain rfl : l = [] := List.length_eq_zero_iff.1 h2
    exact Lib.run_convert_nil_bytes w _ _ 5 _ Tryz.underlying31 Tryz.underlying5 Tryz.underlying9
  · obtain ⟨e1, _, e3⟩ := slice_inj h1
    subst e1
    subst e3
    rw [Nat.mul_one] at htk
    exact run_convert_bytes_back w _ _ 5 ⟨g, 0, none⟩ c l Tryz.underlying31 Tryz.underlying5 Tryz.underlying9 (Lib.bytes_of_row hg htk)
theorem own_off {B g : Nat} {e : TypeId} {v : Value} {n : Nat} {xs : List Value} {w w' : World} (h : w.ownsRowF B e 1 v n xs) (hg : g < B) (hw : w.grownBy w' (some g)) : w'.ownsRowF B e 1 v n xs := by
  refine h.kept hw ?_
  cases hv : v.ownBlock with
  | none => exact .inl rfl
  | some k =>
    have := h.lt k hv
    exact .inr (fun e => by have := Option.some.inj e; omega)
theorem own_row {B g : Nat} {e : TypeId} {v : Value} {n : Nat} {xs : List Value} {w : World} (h : w.ownsRowF B e 1 v n xs) (hg : g < B) (cs : Array Value) : (w.setRow g cs).ownsRowF B e 1 v n xs :=
  own_off h hg ⟨rfl, rfl, rfl, by simp, fun k _ hk => setRow_other w g k cs (fun e => hk (by rw [e]))⟩
theorem own_set {B g j : Nat} {e : TypeId} {v u : Value} {n : Nat} {xs : List Value} {w : World} (h : w.ownsRowF B e 1 v n xs) (hg : g < B) : (w.setCell ⟨g, j, none⟩ u).ownsRowF B e 1 v n xs :=
  own_off h hg ⟨rfl, rfl, rfl, by simp, fun k _ hk => Below.heap_setCell w ⟨g, j, none⟩ u k (fun e => hk (by rw [e]))⟩
theorem unq_none : ∀ (q : List UInt8), 34 ∉ q → unq q = none
  | [], _ => by unfold unq; rfl
  | c :: r, h => by
    have h1 : c ≠ 34 := fun e => h (by rw [e]; exact List.mem_cons_self)
    rw [unq_cons c r h1, unq_none r (fun hm => h (List.mem_cons_of_mem _ hm))]; rfl
theorem unq_piece : ∀ (w p : List UInt8), 34 ∉ w → unq (w ++ 34 :: p) = (unq (34 :: p)).map (fun x => (w ++ x.1, w.length + x.2))
  | [], p, _ => by
    rw [List.nil_append]
    cases h : unq (34 :: p) with
    | none => rfl
    | some x => simp
  | c :: r, p, h => by
    have h1 : c ≠ 34 := fun e => h (by rw [e]; exact List.mem_cons_self)
    rw [List.cons_append, unq_cons c _ h1, unq_piece r p (fun hm => h (List.mem_cons_of_mem _ hm))]
    cases unq (34 :: p) with
    | none => rfl
    | some x => simp only [Option.map_some, List.cons_append, List.length_cons]; rw [show r.length + x.2 + 1 = r.length + 1 + x.2 by omega]
theorem unq_close : ∀ (p : List UInt8), ¬([34] : List UInt8).isPrefixOf p = true → unq (34 :: p) = some ([], 1)
  | [], _ => by unfold unq; rfl
  | d :: q, h => unq_end d q (fun e => h (by subst e; simp [List.isPrefixOf]))
end Go.Proofs.YtmppnobldhhpjaaGreatDoor.Pr
end
section
namespace Go.Proofs.YtmppnobldhhpjaaGreatDoor.Pr
set_option linter.unusedVariables false
set_option linter.unusedSimpArgs false
open Go.RowKit Go.Proofs.YtmppnobldhhpjaaGreatDoorW.PrintWords Go.Proofs.YtmppnobldhhpjaaGreatDoorW.PrintLast Go.Proofs.YtmppnobldhhpjaaGreatDoorW.PrintMore
def lflt6.T6 : Bool × List (List Nat × List Nat) := (true, [([], []), ([0], [0]), ([1], [1]), ([2], [2]), ([], []), ([4], [4]), ([5], [5]), ([6], [6]), ([3, 7], [3, 7]), ([], []), ([8, 9], [8, 9])])
def lflt6.B6 : List Nat := [0, 1, 3, 7, 0, 16, 48, 112, 255, 0, 1023]
theorem lflt6.tab6 : rtab .any (opsOf Tryz.f28 6) = lflt6.T6 := by kernel_rfl
theorem lflt6.bits6 : waitsOk lflt6.T6.2 lflt6.B6 = true := by kernel_rfl
theorem hasPrefix_calls (a b : ByteArray) (w : World) : Calls Tryz.prog 42 #[.string a, .string b] w fun e w' => e = .returned (.bool (Lib.hasPrefix a.data.toList b.data.toList)) ∧ Below w.heap.size w w' :=
  (strings_HasPrefix.calls a b _ w rfl).mono fun e w' h => ⟨h.1, drawn_below h.2⟩
theorem show_name (j : Nat) (h1 : 1 ≤ j) (h7 : j ≤ 7) : value_Show.f 4 0 (bl []) false (j : Int) = some (bl (nameL (j : Int)), 0) := by
  have : j = 1 ∨ j = 2 ∨ j = 3 ∨ j = 4 ∨ j = 5 ∨ j = 6 ∨ j = 7 := by omega
  rcases this with rfl | rfl | rfl | rfl | rfl | rfl | rfl
  all_goals (clear h1 h7; decide +kernel)
set_option maxHeartbeats 8000000 in
set_option maxRecDepth 100000 in
theorem fault_calls (pre l : List UInt8) (w0 w : World) (g : Nat) (hL0 : Aside0 (LaidW w)) (hlen : (pre ++ l).length ≤ 1024) (hI : IsSc w0 w g (bl (pre ++ l)) (pre.length : Int) 0) (hB : Below w0.heap.size w0 w) :
    Calls Tryz.prog 28 #[ptV g] w (OneOut (bl (pre ++ l)) (pre.length : Int) (fltT7 l) w0 g w) := by
  have hgl := blk_lt hI.1
  have hne1 : w.heap.size ≠ g := by omega
  have hne2 : g ≠ w.heap.size := by omega
  have hsz : (bl (pre ++ l)).size = pre.length + l.length := by rw [bl_size, List.length_append]
  have hx : (bl (pre ++ l)).extract pre.length (pre.length + l.length) = bl l := by
    have := ext_at pre l l.length (Nat.le_refl _)
    rwa [List.take_length] at this
  rw [List.length_append] at hlen
  have HU := Aside0.mk (show fltT7 l = (match (([0, 1, 2, 3, 4, 5, 6, 7] : List Int).drop 1).find? (fun i => (nameL i).isPrefixOf l) with | none => (tkZ, 0, 5) | some i => (tkV 4 0 [] false i, (nameL i).length, 0)) from rfl)
  generalize fltT7 l = res at HU ⊢
  generalize bl (pre ++ l) = s at hI hsz hx ⊢
  have HI := Aside0.mk hI
  have HB := Aside0.mk hB
  have HX := Aside0.mk hx
  clear hI hB hx
  have z0 : (0 : Int) ≤ (pre.length : Int) := by omega
  have z1 : (pre.length : Int) ≤ (pre.length : Int) + (l.length : Int) := by omega
  go_enter Tryz.func28, Tryz.ntmps28
  go_wp2
  go_loopg [4] 7 (fun kq v4 w' => ∃ j : Nat, 1 ≤ j ∧ j + kq = 8 ∧ v4 = .int .i64 (j : Int) ∧ Aside0 (res = (match (([0, 1, 2, 3, 4, 5, 6, 7] : List Int).drop j).find? (fun i => (nameL i).isPrefixOf l) with | none => (tkZ, 0, 5) | some i => (tkV 4 0 [] false i, (nameL i).length, 0))) ∧ Aside0 (Below (w.heap.size + 1) (w.alloc (.cells ZTk 45)) w'))
  case atStart => exact ⟨1, Nat.le_refl _, rfl, rfl, HU, ⟨Below.refl _ _⟩⟩
  case round =>
    clear HU
    obtain ⟨j, hj1, hj8, rfl, HU, HW⟩ := hrel
    have S0 := Aside0.mk (show IsSc w0 wr g s (pre.length : Int) 0 from ⟨(HW.out.block g (by omega)).trans (blk_alloc HI.out.1 _), HI.out.2⟩)
    have T0 := Aside0.mk (show wr.heap[w.heap.size]? = some (.cells ZTk 45 (0, 0)) from (HW.out.block _ (by omega)).trans (newBlk w _))
    have B0 := Aside0.mk (show Below w.heap.size w wr from (bel1 w _).trans (HW.out.mono (by omega)))
    cases gk with
    | zero =>
      obtain rfl : j = 8 := by omega
      have HN := Aside0.mk (show res = (tkZ, 0, 5) by rw [HU.out]; rfl)
      have hc := fun i => blk_cell S0.out.1 i
      have hf := fun i => blk_frozen S0.out.1 i
      go_wp2_with (first
        | ((with_reducible refine gate_store (t := 45) (p := 2) (v := .tmp 37) rfl ?_); refine wpRowSt rfl 45 (.tmp 2) (.tmp 37) rfl (w.heap.size) (TkA tkZ) rfl rfl 45 _ (blk_far (p := ⟨g, 2, none⟩) T0.out hne1 _) (by kernel_rfl) rfl rfl ?_))
      refine bodyPost_ret (results_ct rfl _ _ (w.heap.size) 45 (TkA tkZ) (0, 0) _ rfl (setRow_heap _ _ _ _ _ _ (blk_far (p := ⟨g, 2, none⟩) T0.out hne1 _)) Tryz.underlying45 rfl (by kernel_rfl)) rfl ?_
      refine ⟨_, _, rfl, fun h => ?_, ?_, ?_, ?_⟩
      · rw [HN.out] at h; cases h
      · rw [HN.out]; exact ⟨rowOther _ (blk_put S0.out.1 2 _ rfl) hne2, HI.out.2⟩
      · exact rowBelow ((low HB.out B0.out).setCell (p := ⟨g, 2, none⟩) HI.out.2 _) HB.out.size _
      · exact keepRow ((KeepBut.of_below B0.out g none).set_ 2 _) (Nat.le_refl _) _
    | succ k1 =>
      have hj7 : j ≤ 7 := by omega
      have hd1 : decide ((j : Int) ≤ 7) = true := decide_eq_true (by omega)
      have hd2 : (j : Int) ≤ 7 := by omega
      have HSh := Aside0.mk (show_name j hj1 hj7)
      have HD := Aside0.mk (show ([0, 1, 2, 3, 4, 5, 6, 7] : List Int).drop j = (j : Int) :: ([0, 1, 2, 3, 4, 5, 6, 7] : List Int).drop (j + 1) by
        have : j = 1 ∨ j = 2 ∨ j = 3 ∨ j = 4 ∨ j = 5 ∨ j = 6 ∨ j = 7 := by omega
        rcases this with rfl | rfl | rfl | rfl | rfl | rfl | rfl <;> rfl)
      have hfp : ∀ W, Calls Tryz.prog 42 #[.string (bl l), .string (bl (nameL (j : Int)))] W fun e w' => e = .returned (.bool ((nameL (j : Int)).isPrefixOf l)) ∧ Below W.heap.size W w' := by
        intro W
        have := hasPrefix_calls (bl l) (bl (nameL (j : Int))) W
        rw [bl_data, bl_data] at this
        exact this
      have hnz : (bl (nameL (j : Int))).size = (nameL (j : Int)).length := bl_size _
      by_cases hp : (nameL (j : Int)).isPrefixOf l = true
      · have HN := Aside0.mk (show res = (tkV 4 0 [] false (j : Int), (nameL (j : Int)).length, 0) by rw [HU.out, HD.out, List.find?_cons, hp])
        rw [hp, ← HX.out] at hfp
        have HF := Aside0.mk hfp
        clear hfp hp
        generalize bl (nameL (j : Int)) = nm at HSh HF hnz
        go_wp2_with (first
          | ((with_reducible refine gate_store (t := 39) (p := 5) (v := .tmp 13) rfl ?_); refine wpRowSt rfl 39 (.tmp 5) (.tmp 13) rfl (wr.heap.size) (#[.int .i64 4, .int .i64 0, .string ⟨#[]⟩, .bool false, .int .i64 (j : Int)]) rfl rfl 39 _ (newBlk wr _) (by kernel_rfl) rfl rfl ?_; have V5 := Aside0.mk (setRow_heap _ _ _ (#[.int .i64 4, .int .i64 0, .string ⟨#[]⟩, .bool false, .int .i64 (j : Int)]) _ _ (newBlk wr (.cells #[.int .i64 0, .int .i64 0, .string ⟨#[]⟩, .bool false, .int .i64 0] 39))); have B5 := Aside0.mk (rowBelow (HW.out.alloc (by have := HW.out.size; simp at this; omega) (.cells #[.int .i64 0, .int .i64 0, .string ⟨#[]⟩, .bool false, .int .i64 0] 39)) (by have := HW.out.size; simp at this; omega) (#[.int .i64 4, .int .i64 0, .string ⟨#[]⟩, .bool false, .int .i64 (j : Int)])); have S5 := Aside0.mk (show IsSc w0 ((wr.alloc (.cells #[.int .i64 0, .int .i64 0, .string ⟨#[]⟩, .bool false, .int .i64 0] 39)).setRow wr.heap.size (#[.int .i64 4, .int .i64 0, .string ⟨#[]⟩, .bool false, .int .i64 (j : Int)])) g s (pre.length : Int) 0 from ⟨rowOther _ (blk_alloc S0.out.1 _) (by have := blk_lt S0.out.1; omega), HI.out.2⟩))
          | ((with_reducible refine gate_dst (N := 15) rfl ?_); refine wpPartLd 15 rfl rfl 39 (.tmp 5) rfl _ rfl _ (#[.int .i64 4, .int .i64 0, .string ⟨#[]⟩, .bool false, .int .i64 (j : Int)]) [] (V5.out) rfl Tryz.underlying39 rfl (by kernel_rfl) ?_)
          | (go_at_call 43; refine (value_Show.calls 4 0 (bl []) false (j : Int) _ _ _ HSh.out (LaidAt hL0 ((bel1 w _).trans (B5.out.mono (by omega))))).mono ?_; rintro e w2 ⟨rfl, hb⟩; have V6 := Aside0.mk (blk_below V5.out hb); have B6 := Aside0.mk (B5.out.trans (hb.mono (by have := B5.out.size; simp at this ⊢; omega))); have S6 := Aside0.mk (S5.out.below hb); clear hb))
        have hS6 := (show (fun w' => w'.cell? ⟨g, 0, none⟩ = some (.string s) ∧ w'.cell? ⟨g, 1, none⟩ = some (.int .i64 (pre.length : Int)) ∧ w'.heap[wr.heap.size]? = some (.cells #[.int .i64 4, .int .i64 0, .string ⟨#[]⟩, .bool false, .int .i64 (j : Int)] 39 (0, 0)) ∧ Below (w.heap.size + 1) (w.alloc (.cells ZTk 45)) w' ∧ IsSc w0 w' g s (pre.length : Int) 0) (w2.drew) from ⟨(blk_cell (blk_drew S6.out.1) 0).trans rfl, (blk_cell (blk_drew S6.out.1) 1).trans rfl, blk_drew V6.out, B6.out.drew, ⟨blk_drew S6.out.1, HI.out.2⟩⟩)
        refine start_ (n := 11) (S := fun w' => w'.cell? ⟨g, 0, none⟩ = some (.string s) ∧ w'.cell? ⟨g, 1, none⟩ = some (.int .i64 (pre.length : Int)) ∧ w'.heap[wr.heap.size]? = some (.cells #[.int .i64 4, .int .i64 0, .string ⟨#[]⟩, .bool false, .int .i64 (j : Int)] 39 (0, 0)) ∧ Below (w.heap.size + 1) (w.alloc (.cells ZTk 45)) w' ∧ IsSc w0 w' g s (pre.length : Int) 0) (ds := []) #[false, false, false, false, false, false, false, false, false, false, false] (by kernel_rfl) rfl rfl hS6 (fun hHeld => ?_)
        refine with_tabW lflt6.tab6 lflt6.bits6 (fun HT_ HW_ => ?_)
        refine pureI 0 (some 19) HT_ rfl rfl (by kernel_rfl) (by rfl) (fun _ => by go_simp; with_reducible rfl) (by simp only [Act.put, List.setIfInBounds_toArray, List.set_cons_zero, List.set_cons_succ]; rfl) ?_
        refine pureI 1 (some 20) HT_ rfl rfl (by kernel_rfl) (by rfl) (fun _ => by go_simp; with_reducible rfl) (by simp only [Act.put, List.setIfInBounds_toArray, List.set_cons_zero, List.set_cons_succ]; rfl) ?_
        refine pureI 2 (some 21) HT_ rfl rfl (by kernel_rfl) (by rfl) (fun _ => by go_simp; with_reducible rfl) (by simp only [Act.put, List.setIfInBounds_toArray, List.set_cons_zero, List.set_cons_succ]; rfl) ?_
        refine pureI 4 (some 23) HT_ rfl rfl (by kernel_rfl) (by rfl) (fun _ => by go_simp; with_reducible rfl) (by simp only [Act.put, List.setIfInBounds_toArray, List.set_cons_zero, List.set_cons_succ]; rfl) ?_
        refine pureI 5 (some 24) HT_ rfl rfl (by kernel_rfl) (by rfl) (fun _ => by go_simp; with_reducible rfl) (by simp only [Act.put, List.setIfInBounds_toArray, List.set_cons_zero, List.set_cons_succ]; rfl) ?_
        refine pureI 6 (some 25) HT_ rfl rfl (by kernel_rfl) (by rfl) (fun _ => by go_simp; with_reducible rfl) (by simp only [Act.put, List.setIfInBounds_toArray, List.set_cons_zero, List.set_cons_succ]; rfl) ?_
        refine pureI 9 (some 28) HT_ rfl rfl (by kernel_rfl) (by rfl) (fun _ => by go_simp; with_reducible rfl) (by simp only [Act.put, List.setIfInBounds_toArray, List.set_cons_zero, List.set_cons_succ]; rfl) ?_
        refine takeI 3 (some 22) HT_ HW_ rfl rfl (by kernel_rfl) (by rfl) (by rintro w' ⟨s0, s1, s2, s3, s4⟩; go_simp; with_reducible rfl) hHeld (by simp only [Act.put, List.setIfInBounds_toArray, List.set_cons_zero, List.set_cons_succ]; rfl) ?_
        refine takeI 7 (some 26) HT_ HW_ rfl rfl (by kernel_rfl) (by rfl) (by rintro w' ⟨s0, s1, s2, s3, s4⟩; go_simp; with_reducible rfl) hHeld (by simp only [Act.put, List.setIfInBounds_toArray, List.set_cons_zero, List.set_cons_succ]; rfl) ?_
        refine pureI 8 (some 27) HT_ rfl rfl (by kernel_rfl) (by rfl) (fun _ => by go_simp; with_reducible rfl) (by simp only [Act.put, List.setIfInBounds_toArray, List.set_cons_zero, List.set_cons_succ]; rfl) ?_
        refine oneI 10 (some 29) HT_ rfl rfl (by kernel_rfl) (by decide) (fun K hK => ?_)
        refine goes_ Tryz.func42 (by kernel_rfl) rfl #[.string (s.extract pre.length (pre.length + l.length)), .string nm] (by (try simp only [List.map_toArray, List.map_cons, List.map_nil]); first | done | rfl) rfl rfl (by first | rfl | ((try simp only [List.map_toArray, List.map_cons, List.map_nil]); first | done | rfl)) ?_
        with_reducible refine (HF.out _).mono ?_
        rintro e w9 ⟨rfl, hb⟩
        refine ⟨_, rfl, ?_⟩
        refine hK.out _ _ ⟨pw_cell_below hb hHeld.1, pw_cell_below hb hHeld.2.1, blk_below hHeld.2.2.1 hb, hHeld.2.2.2.1.trans (hb.mono (by have h := hHeld.2.2.2.1.size; rw [World.size_alloc] at h; exact h)), hHeld.2.2.2.2.below hb⟩ (fun hHeld => ?_)
        clear hK K
        refine norm_ (a' := ?_) ?_ ?_
        rotate_left
        · show Act.put _ (some 29) _ = _
          simp only [Act.put, List.setIfInBounds_toArray, List.set_cons_zero, List.set_cons_succ]
          rfl
        refine done_ (done_of HT_.out (by kernel_rfl)) ?_
        have H6 := Aside0.mk hHeld
        clear hHeld
        go_wp2_with (first
          | ((with_reducible refine gate_dst (N := 30) rfl ?_); refine wpPartLd 30 rfl rfl 39 (.tmp 5) rfl _ rfl _ (#[.int .i64 4, .int .i64 0, .string ⟨#[]⟩, .bool false, .int .i64 (j : Int)]) [] (H6.out.2.2.1) rfl Tryz.underlying39 rfl (by kernel_rfl) ?_)
          | ((with_reducible refine gate_store (t := 45) (p := 2) (v := .tmp 31) rfl ?_); refine wpRowSt rfl 45 (.tmp 2) (.tmp 31) rfl (w.heap.size) (TkA (tkV 4 0 [] false (j : Int))) rfl rfl 45 _ ((H6.out.2.2.2.1.block _ (by omega)).trans (newBlk w _)) (by kernel_rfl) rfl rfl ?_))
        refine bodyPost_ret (results_ct rfl _ _ (w.heap.size) 45 (TkA (tkV 4 0 [] false (j : Int))) (0, 0) _ rfl (setRow_heap _ _ _ _ _ _ ((H6.out.2.2.2.1.block _ (by omega)).trans (newBlk w _))) Tryz.underlying45 rfl (by kernel_rfl)) rfl ?_
        have B7 := (bel1 w _).trans (H6.out.2.2.2.1.mono (by omega : w.heap.size ≤ w.heap.size + 1))
        refine ⟨_, _, rfl, fun h => ?_, ?_, ?_, ?_⟩
        · rw [HN.out]; exact ⟨rfl, rfl⟩
        · rw [HN.out]; exact ⟨rowOther _ H6.out.2.2.2.2.1 hne2, HI.out.2⟩
        · exact rowBelow (low HB.out B7) HB.out.size _
        · exact keepRow (KeepBut.of_below B7 g none) (Nat.le_refl _) _
      · have HPf := Aside0.mk (Bool.eq_false_iff.2 hp)
        rw [Bool.eq_false_iff.2 hp, ← HX.out] at hfp
        have HF := Aside0.mk hfp
        clear hfp hp
        generalize bl (nameL (j : Int)) = nm at HSh HF hnz
        go_wp2_with (first
          | ((with_reducible refine gate_store (t := 39) (p := 5) (v := .tmp 13) rfl ?_); refine wpRowSt rfl 39 (.tmp 5) (.tmp 13) rfl (wr.heap.size) (#[.int .i64 4, .int .i64 0, .string ⟨#[]⟩, .bool false, .int .i64 (j : Int)]) rfl rfl 39 _ (newBlk wr _) (by kernel_rfl) rfl rfl ?_; have V5 := Aside0.mk (setRow_heap _ _ _ (#[.int .i64 4, .int .i64 0, .string ⟨#[]⟩, .bool false, .int .i64 (j : Int)]) _ _ (newBlk wr (.cells #[.int .i64 0, .int .i64 0, .string ⟨#[]⟩, .bool false, .int .i64 0] 39))); have B5 := Aside0.mk (rowBelow (HW.out.alloc (by have := HW.out.size; simp at this; omega) (.cells #[.int .i64 0, .int .i64 0, .string ⟨#[]⟩, .bool false, .int .i64 0] 39)) (by have := HW.out.size; simp at this; omega) (#[.int .i64 4, .int .i64 0, .string ⟨#[]⟩, .bool false, .int .i64 (j : Int)])); have S5 := Aside0.mk (show IsSc w0 ((wr.alloc (.cells #[.int .i64 0, .int .i64 0, .string ⟨#[]⟩, .bool false, .int .i64 0] 39)).setRow wr.heap.size (#[.int .i64 4, .int .i64 0, .string ⟨#[]⟩, .bool false, .int .i64 (j : Int)])) g s (pre.length : Int) 0 from ⟨rowOther _ (blk_alloc S0.out.1 _) (by have := blk_lt S0.out.1; omega), HI.out.2⟩))
          | ((with_reducible refine gate_dst (N := 15) rfl ?_); refine wpPartLd 15 rfl rfl 39 (.tmp 5) rfl _ rfl _ (#[.int .i64 4, .int .i64 0, .string ⟨#[]⟩, .bool false, .int .i64 (j : Int)]) [] (V5.out) rfl Tryz.underlying39 rfl (by kernel_rfl) ?_)
          | (go_at_call 43; refine (value_Show.calls 4 0 (bl []) false (j : Int) _ _ _ HSh.out (LaidAt hL0 ((bel1 w _).trans (B5.out.mono (by omega))))).mono ?_; rintro e w2 ⟨rfl, hb⟩; have V6 := Aside0.mk (blk_below V5.out hb); have B6 := Aside0.mk (B5.out.trans (hb.mono (by have := B5.out.size; simp at this ⊢; omega))); have S6 := Aside0.mk (S5.out.below hb); clear hb))
        have hS6 := (show (fun w' => w'.cell? ⟨g, 0, none⟩ = some (.string s) ∧ w'.cell? ⟨g, 1, none⟩ = some (.int .i64 (pre.length : Int)) ∧ w'.heap[wr.heap.size]? = some (.cells #[.int .i64 4, .int .i64 0, .string ⟨#[]⟩, .bool false, .int .i64 (j : Int)] 39 (0, 0)) ∧ Below (w.heap.size + 1) (w.alloc (.cells ZTk 45)) w' ∧ IsSc w0 w' g s (pre.length : Int) 0) (w2.drew) from ⟨(blk_cell (blk_drew S6.out.1) 0).trans rfl, (blk_cell (blk_drew S6.out.1) 1).trans rfl, blk_drew V6.out, B6.out.drew, ⟨blk_drew S6.out.1, HI.out.2⟩⟩)
        refine start_ (n := 11) (S := fun w' => w'.cell? ⟨g, 0, none⟩ = some (.string s) ∧ w'.cell? ⟨g, 1, none⟩ = some (.int .i64 (pre.length : Int)) ∧ w'.heap[wr.heap.size]? = some (.cells #[.int .i64 4, .int .i64 0, .string ⟨#[]⟩, .bool false, .int .i64 (j : Int)] 39 (0, 0)) ∧ Below (w.heap.size + 1) (w.alloc (.cells ZTk 45)) w' ∧ IsSc w0 w' g s (pre.length : Int) 0) (ds := []) #[false, false, false, false, false, false, false, false, false, false, false] (by kernel_rfl) rfl rfl hS6 (fun hHeld => ?_)
        refine with_tabW lflt6.tab6 lflt6.bits6 (fun HT_ HW_ => ?_)
        refine pureI 0 (some 19) HT_ rfl rfl (by kernel_rfl) (by rfl) (fun _ => by go_simp; with_reducible rfl) (by simp only [Act.put, List.setIfInBounds_toArray, List.set_cons_zero, List.set_cons_succ]; rfl) ?_
        refine pureI 1 (some 20) HT_ rfl rfl (by kernel_rfl) (by rfl) (fun _ => by go_simp; with_reducible rfl) (by simp only [Act.put, List.setIfInBounds_toArray, List.set_cons_zero, List.set_cons_succ]; rfl) ?_
        refine pureI 2 (some 21) HT_ rfl rfl (by kernel_rfl) (by rfl) (fun _ => by go_simp; with_reducible rfl) (by simp only [Act.put, List.setIfInBounds_toArray, List.set_cons_zero, List.set_cons_succ]; rfl) ?_
        refine pureI 4 (some 23) HT_ rfl rfl (by kernel_rfl) (by rfl) (fun _ => by go_simp; with_reducible rfl) (by simp only [Act.put, List.setIfInBounds_toArray, List.set_cons_zero, List.set_cons_succ]; rfl) ?_
        refine pureI 5 (some 24) HT_ rfl rfl (by kernel_rfl) (by rfl) (fun _ => by go_simp; with_reducible rfl) (by simp only [Act.put, List.setIfInBounds_toArray, List.set_cons_zero, List.set_cons_succ]; rfl) ?_
        refine pureI 6 (some 25) HT_ rfl rfl (by kernel_rfl) (by rfl) (fun _ => by go_simp; with_reducible rfl) (by simp only [Act.put, List.setIfInBounds_toArray, List.set_cons_zero, List.set_cons_succ]; rfl) ?_
        refine pureI 9 (some 28) HT_ rfl rfl (by kernel_rfl) (by rfl) (fun _ => by go_simp; with_reducible rfl) (by simp only [Act.put, List.setIfInBounds_toArray, List.set_cons_zero, List.set_cons_succ]; rfl) ?_
        refine takeI 3 (some 22) HT_ HW_ rfl rfl (by kernel_rfl) (by rfl) (by rintro w' ⟨s0, s1, s2, s3, s4⟩; go_simp; with_reducible rfl) hHeld (by simp only [Act.put, List.setIfInBounds_toArray, List.set_cons_zero, List.set_cons_succ]; rfl) ?_
        refine takeI 7 (some 26) HT_ HW_ rfl rfl (by kernel_rfl) (by rfl) (by rintro w' ⟨s0, s1, s2, s3, s4⟩; go_simp; with_reducible rfl) hHeld (by simp only [Act.put, List.setIfInBounds_toArray, List.set_cons_zero, List.set_cons_succ]; rfl) ?_
        refine pureI 8 (some 27) HT_ rfl rfl (by kernel_rfl) (by rfl) (fun _ => by go_simp; with_reducible rfl) (by simp only [Act.put, List.setIfInBounds_toArray, List.set_cons_zero, List.set_cons_succ]; rfl) ?_
        refine oneI 10 (some 29) HT_ rfl rfl (by kernel_rfl) (by decide) (fun K hK => ?_)
        refine goes_ Tryz.func42 (by kernel_rfl) rfl #[.string (s.extract pre.length (pre.length + l.length)), .string nm] (by (try simp only [List.map_toArray, List.map_cons, List.map_nil]); first | done | rfl) rfl rfl (by first | rfl | ((try simp only [List.map_toArray, List.map_cons, List.map_nil]); first | done | rfl)) ?_
        with_reducible refine (HF.out _).mono ?_
        rintro e w9 ⟨rfl, hb⟩
        refine ⟨_, rfl, ?_⟩
        refine hK.out _ _ ⟨pw_cell_below hb hHeld.1, pw_cell_below hb hHeld.2.1, blk_below hHeld.2.2.1 hb, hHeld.2.2.2.1.trans (hb.mono (by have h := hHeld.2.2.2.1.size; rw [World.size_alloc] at h; exact h)), hHeld.2.2.2.2.below hb⟩ (fun hHeld => ?_)
        clear hK K
        refine norm_ (a' := ?_) ?_ ?_
        rotate_left
        · show Act.put _ (some 29) _ = _
          simp only [Act.put, List.setIfInBounds_toArray, List.set_cons_zero, List.set_cons_succ]
          rfl
        refine done_ (done_of HT_.out (by kernel_rfl)) ?_
        have H6 := Aside0.mk hHeld
        clear hHeld
        go_wp2
        go_roundg k1
        case measure => omega
        case rel => exact ⟨j + 1, by omega, by omega, by congr 1 <;> (unfold wrap64; omega), ⟨by rw [HU.out, HD.out, List.find?_cons, HPf.out]⟩, ⟨H6.out.2.2.2.1⟩⟩
end Go.Proofs.YtmppnobldhhpjaaGreatDoor.Pr
end
