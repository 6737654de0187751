/-
  Lemmas for the law LexScansLexPairs.
-/
import Derived.Test.YtmppnobldhhpjaaGreatDoorSLexScansLexPairs19
section
namespace Go.Proofs.YtmppnobldhhpjaaGreatDoor.Pr
set_option linter.unusedVariables false
set_option linter.unusedSimpArgs false
open Go.RowKit Go.Proofs.YtmppnobldhhpjaaGreatDoorW.PrintWords Go.Proofs.YtmppnobldhhpjaaGreatDoorW.PrintLast Go.Proofs.YtmppnobldhhpjaaGreatDoorW.PrintMore
def ltext2.T2 : Bool × List (List Nat × List Nat) := (true, [([], []), ([0], [0]), ([1], [1]), ([2], [2]), ([], []), ([4], [4]), ([5], [5]), ([6], [6]), ([7], [7]), ([3, 8], [3, 8]), ([9, 0, 1, 2, 3, 4, 5, 6, 7, 8, 9], [9])])
def ltext2.B2 : List Nat := [0, 1, 3, 7, 0, 16, 48, 112, 240, 511, 1023]
theorem ltext2.tab2 : rtab .any (opsOf Tryz.f27 2) = ltext2.T2 := by kernel_rfl
theorem ltext2.bits2 : waitsOk ltext2.T2.2 ltext2.B2 = true := by kernel_rfl
def ltext10.T10 : Bool × List (List Nat × List Nat) := (true, [([], []), ([], []), ([0, 1], [0, 1]), ([], []), ([3], [3]), ([2, 2, 0, 1, 2], [0, 2]), ([4, 5, 0, 1, 2, 3, 4, 5], [3, 4])])
def ltext10.B10 : List Nat := [0, 0, 3, 0, 8, 7, 63]
theorem ltext10.tab10 : rtab .any (opsOf Tryz.f27 10) = ltext10.T10 := by kernel_rfl
theorem ltext10.bits10 : waitsOk ltext10.T10.2 ltext10.B10 = true := by kernel_rfl
def ltext13.T13 : Bool × List (List Nat × List Nat) := (true, [([], []), ([0], [0]), ([1], [1]), ([2], [2]), ([], []), ([4], [4]), ([5], [5]), ([6], [6]), ([7], [7]), ([], []), ([9], [9]), ([10], [10]), ([11], [11]), ([8, 12], [8, 12]), ([], []), ([14], [14]), ([13, 15], [13, 15]), ([3, 0, 1, 2, 3], [3]), ([16, 17, 0, 1, 2, 3, 4, 5, 6, 7, 8, 9, 10, 11, 12, 13, 14, 15, 16, 17], [16])])
def ltext13.B13 : List Nat := [0, 1, 3, 7, 0, 16, 48, 112, 240, 0, 512, 1536, 3584, 8176, 0, 16384, 65520, 15, 262143]
theorem ltext13.tab13 : rtab .any (opsOf Tryz.f27 13) = ltext13.T13 := by kernel_rfl
theorem ltext13.bits13 : waitsOk ltext13.T13.2 ltext13.B13 = true := by kernel_rfl
set_option maxHeartbeats 8000000 in
set_option maxRecDepth 100000 in
theorem text_calls (pre : List UInt8) (c0 : UInt8) (r : List UInt8) (w0 w : World) (g : Nat) (hlen : (pre ++ c0 :: r).length ≤ 1024) (hI : IsSc w0 w g (bl (pre ++ c0 :: r)) (pre.length : Int) 0) (hB : Below w0.heap.size w0 w) :
    Calls Tryz.prog 27 #[ptV g] w (OneOut (bl (pre ++ c0 :: r)) (pre.length : Int) (txtT7 (c0 :: r)) w0 g w) := by
  have hgl := blk_lt hI.1
  have hne1 : w.heap.size ≠ g := by omega
  have hne2 : g ≠ w.heap.size := by omega
  have hsz : (bl (pre ++ c0 :: r)).size = pre.length + (r.length + 1) := by rw [bl_size]; simp
  have hx : (bl (pre ++ c0 :: r)).extract (pre.length + 1) (pre.length + (r.length + 1)) = bl r := by
    have := ext_at pre (c0 :: r) (r.length + 1) (by simp)
    rw [bl_extract] at this ⊢
    rw [show pre.length + 1 = (pre ++ [c0]).length by simp, show pre ++ c0 :: r = (pre ++ [c0]) ++ r by simp]
    congr 1
    rw [List.take_of_length_le (by simp), List.drop_left' rfl]
  obtain ⟨i0, hi, hz0, hz1, hz2⟩ := info_parts info_u8
  simp only [List.length_append, List.length_cons] at hlen
  have HU := Aside0.mk (show txtT7 (c0 :: r) = (match unq r with | none => (tkZ, 0, 5) | some (t, n) => if t.length ≤ 255 then (tkV 2 0 t false 0, n + 1, 0) else (tkZ, 0, 7)) from rfl)
  generalize txtT7 (c0 :: r) = res at HU ⊢
  generalize bl (pre ++ c0 :: r) = s at hI hsz hx ⊢
  have HI := Aside0.mk hI
  have HB := Aside0.mk hB
  have HX := Aside0.mk hx
  have HLn := Aside0.mk hlen
  clear hI hB hx
  have p0 := (blk_cell (blk_drew (blk_alloc HI.out.1 (.cells ZTk 45))) 0).trans (show _ = some (Value.string s) from rfl)
  have p1 := (blk_cell (blk_drew (blk_alloc HI.out.1 (.cells ZTk 45))) 1).trans (show _ = some (Value.int .i64 (pre.length : Int)) from rfl)
  have z0 : (0 : Int) ≤ (pre.length : Int) + 1 := by omega
  have z1 : (pre.length : Int) + 1 ≤ (s.size : Int) := by omega
  have z2 : IntKind.i64.wrap ((pre.length : Int) + 1) = (pre.length : Int) + 1 := by rw [i64_w]; unfold wrap64; omega
  have z3 : (pre.length : Int) + 1 ≤ (pre.length : Int) + ((r.length : Int) + 1) := by omega
  have z4 : ((pre.length : Int) + 1).toNat = pre.length + 1 := by omega
  go_enter Tryz.func27, Tryz.ntmps27
  go_wp2
  refine start_ (n := 11) (S := fun w' => w'.cell? ⟨g, 0, none⟩ = some (.string s) ∧ w'.cell? ⟨g, 1, none⟩ = some (.int .i64 (pre.length : Int))) (ds := []) #[false, false, false, false, false, false, false, false, false, false, false] (by kernel_rfl) rfl rfl ⟨p0, p1⟩ (fun hHeld => ?_)
  refine with_tabW ltext2.tab2 ltext2.bits2 (fun HT_ HW_ => ?_)
  refine pureI 0 (some 9) HT_ rfl rfl (by kernel_rfl) (by rfl) (fun _ => by go_simp; with_reducible rfl) (by simp only [Act.put, List.setIfInBounds_toArray, List.set_cons_zero, List.set_cons_succ]; rfl) ?_
  refine pureI 1 (some 10) HT_ rfl rfl (by kernel_rfl) (by rfl) (fun _ => by go_simp; with_reducible rfl) (by simp only [Act.put, List.setIfInBounds_toArray, List.set_cons_zero, List.set_cons_succ]; rfl) ?_
  refine pureI 2 (some 11) HT_ rfl rfl (by kernel_rfl) (by rfl) (fun _ => by go_simp; with_reducible rfl) (by simp only [Act.put, List.setIfInBounds_toArray, List.set_cons_zero, List.set_cons_succ]; rfl) ?_
  refine pureI 4 (some 13) HT_ rfl rfl (by kernel_rfl) (by rfl) (fun _ => by go_simp; with_reducible rfl) (by simp only [Act.put, List.setIfInBounds_toArray, List.set_cons_zero, List.set_cons_succ]; rfl) ?_
  refine pureI 5 (some 14) HT_ rfl rfl (by kernel_rfl) (by rfl) (fun _ => by go_simp; with_reducible rfl) (by simp only [Act.put, List.setIfInBounds_toArray, List.set_cons_zero, List.set_cons_succ]; rfl) ?_
  refine pureI 6 (some 15) HT_ rfl rfl (by kernel_rfl) (by rfl) (fun _ => by go_simp; with_reducible rfl) (by simp only [Act.put, List.setIfInBounds_toArray, List.set_cons_zero, List.set_cons_succ]; rfl) ?_
  refine takeI 3 (some 12) HT_ HW_ rfl rfl (by kernel_rfl) (by rfl) (by rintro w' ⟨s0, s1⟩; go_simp; with_reducible rfl) hHeld (by simp only [Act.put, List.setIfInBounds_toArray, List.set_cons_zero, List.set_cons_succ]; rfl) ?_
  refine takeI 7 (some 16) HT_ HW_ rfl rfl (by kernel_rfl) (by rfl) (by rintro w' ⟨s0, s1⟩; go_simp; with_reducible rfl) hHeld (by simp only [Act.put, List.setIfInBounds_toArray, List.set_cons_zero, List.set_cons_succ]; rfl) ?_
  refine pureI 8 (some 17) HT_ rfl rfl (by kernel_rfl) (by rfl) (fun _ => by go_simp; with_reducible rfl) (by simp only [Act.put, List.setIfInBounds_toArray, List.set_cons_zero, List.set_cons_succ]; rfl) ?_
  refine pureI 9 (some 18) HT_ rfl rfl (by kernel_rfl) (by rfl) (fun _ => by go_simp; with_reducible rfl) (by simp only [Act.put, List.setIfInBounds_toArray, List.set_cons_zero, List.set_cons_succ]; rfl) ?_
  refine pureI 10 (some 5) HT_ rfl rfl (by kernel_rfl) (by rfl) (fun _ => by go_simp; with_reducible rfl) (by simp only [Act.put, List.setIfInBounds_toArray, List.set_cons_zero, List.set_cons_succ]; rfl) ?_
  refine done_ (done_of HT_.out (by kernel_rfl)) ?_
  go_wp2
  rw [HX.out]
  clear p0 p1 hHeld z0 z1 z2 z3 z4
  have HS0 := Aside0.mk (show Lib.OwnBuf (w.heap.size + 1) 5 (.slice none 0 0) ([] : List UInt8).length (Lib.byteCells []) (w.alloc (.cells ZTk 45)) ((w.alloc (.cells ZTk 45)).drew) from ⟨World.ownsRowF_nil _ _ _ _, (Below.refl _ _).drew, by simp⟩)
  go_loopg [4, 5] (r.length + 1) (fun kq v4 v5 w' => ∃ (acc q : List UInt8) (m : Nat), q.length < kq ∧ v5 = .string (bl q) ∧ Aside0 (m + q.length = r.length) ∧ Aside0 (unq r = (unq q).map (fun x => (acc ++ x.1, m + x.2))) ∧ Aside0 (acc.length ≤ m) ∧ Aside0 (Lib.OwnBuf (w.heap.size + 1) 5 v4 acc.length (Lib.byteCells acc) (w.alloc (.cells ZTk 45)) w'))
  case atStart => exact ⟨[], r, 0, Nat.lt_succ_self _, rfl, ⟨by simp⟩, ⟨by simp⟩, ⟨Nat.zero_le _⟩, HS0⟩
  case round =>
    obtain ⟨acc, q, m, hq, rfl, HM, HN0, HA, HV⟩ := hrel
    cases gk with
    | zero => omega
    | succ k1 =>
      have hql : q.length ≤ 1000000 := by have := HM.out; have := HLn.out; omega
      have S0 := Aside0.mk (show IsSc w0 wr g s (pre.length : Int) 0 from ⟨(HV.out.2.1.block g (by omega)).trans (blk_alloc HI.out.1 _), HI.out.2⟩)
      have T0 := Aside0.mk (show wr.heap[w.heap.size]? = some (.cells ZTk 45 (0, 0)) from (HV.out.2.1.block _ (by omega)).trans (newBlk w _))
      have B0 := Aside0.mk (show Below w.heap.size w wr from (bel1 w _).trans (HV.out.2.1.mono (by omega)))
      rcases cut_eq 34 q hql with ⟨hno, hc⟩ | ⟨pc, p, rfl, hno, hc⟩
      · have HC := Aside0.mk hc
        have HN := Aside0.mk (show res = (tkZ, 0, 5) by rw [HU.out, HN0.out, unq_none q hno]; rfl)
        clear hc hno
        go_wp2_with (first
          | (go_at_call 41; refine (strings_Cut.calls _ _ _ _ _ _ HC.out).mono ?_; rintro e w2 ⟨rfl, nd, rfl⟩; have S2 := Aside0.mk (S0.out.below (pw_below_drewN (Below.refl _ _) nd)); have T2 := Aside0.mk (blk_drewN T0.out nd); have HB2 := Aside0.mk (pw_below_drewN B0.out nd); have hc := fun i => blk_cell S2.out.1 i; have hf := fun i => blk_frozen S2.out.1 i)
          | ((with_reducible refine gate_store (t := 45) (p := 2) (v := .tmp 30) rfl ?_); refine wpRowSt rfl 45 (.tmp 2) (.tmp 30) rfl (w.heap.size) (TkA tkZ) rfl rfl 45 _ (blk_far (p := ⟨g, 2, none⟩) T2.out hne1 _) (by kernel_rfl) rfl rfl ?_))
        refine bodyPost_ret (results_ct rfl _ _ (w.heap.size) 45 (TkA tkZ) (0, 0) _ rfl (setRow_heap _ _ _ _ _ _ (blk_far (p := ⟨g, 2, none⟩) T2.out hne1 _)) Tryz.underlying45 rfl (by kernel_rfl)) rfl ?_
        refine ⟨_, _, rfl, fun h => ?_, ?_, ?_, ?_⟩
        · rw [HN.out] at h; cases h
        · rw [HN.out]; exact ⟨rowOther _ (blk_put S2.out.1 2 _ rfl) hne2, HI.out.2⟩
        · exact rowBelow ((low HB.out HB2.out).setCell (p := ⟨g, 2, none⟩) HI.out.2 _) HB.out.size _
        · exact keepRow ((KeepBut.of_below HB2.out g none).set_ 2 _) (Nat.le_refl _) _
      · have hpl : (pc ++ 34 :: p).length = pc.length + (p.length + 1) := by simp
        rw [hpl] at hq
        have HL4 := Aside0.mk (show acc.length + pc.length < 1024 by have := HM.out; have := HA.out; have := HLn.out; omega)
        have HC := Aside0.mk hc
        have HQ := Aside0.mk (unq_piece pc p hno)
        clear hc hno
        by_cases hpf : Lib.hasPrefix (bl p).data.toList [34] = true
        · obtain ⟨p2, rfl⟩ : ∃ p2, p = 34 :: p2 := by
            rw [bl_data] at hpf
            obtain ⟨t, ht⟩ := List.isPrefixOf_iff_prefix.1 hpf
            exact ⟨t, ht.symm⟩
          have HF := Aside0.mk (show strings_HasPrefix.f (bl (34 :: p2)) (⟨#[34]⟩ : ByteArray) = some true from congrArg some hpf)
          clear hpf
          have hsp : (bl (34 :: p2)).size = p2.length + 1 := by rw [bl_size]; rfl
          have HSE := Aside0.mk (show (bl (34 :: p2)).extract 1 (p2.length + 1) = bl p2 by rw [bl_extract]; simp)
          generalize bl (34 :: p2) = sp at HC HF hsp HSE
          have z1 : (1 : Int) ≤ (p2.length : Int) + 1 := by omega
          go_wp2_with (first
            | (go_at_call 41; refine (strings_Cut.calls _ _ _ _ _ _ HC.out).mono ?_; rintro e w2 ⟨rfl, nd, rfl⟩; have HV2 := Aside0.mk (HV.out.drewN nd))
            | (at_builtin; refine Lib.wpList_append_text rfl (.tmp 31) (.tmp 32) 31 9 rfl (w.heap.size + 1) 5 i0 Tryz.underlying31 Tryz.underlying9 hi hz0 hz1 hz2 u4 _ _ rfl (w.alloc (.cells ZTk 45)) HV2.out (bl pc) rfl (by rw [bl_size]; have := HL4.out; omega) ?_; intro v1 w3 hb3; rw [bl_size, strCells_bl, byteCells_append] at hb3; have HV3 := Aside0.mk hb3; clear hb3)
            | (go_at_call 42; refine (strings_HasPrefix.calls _ _ _ _ HF.out).mono ?_; rintro e w5 ⟨rfl, nd2, rfl⟩; have HV5 := Aside0.mk (HV3.out.drewN nd2)))
          refine start_ (n := 7) (S := fun w' => Lib.OwnBuf (w.heap.size + 1) 5 v1 (acc.length + pc.length) (Lib.byteCells (acc ++ pc)) (w.alloc (.cells ZTk 45)) w') (ds := [2]) #[false, false, false, false, false, false, false] (by kernel_rfl) rfl rfl ⟨HV5.out.1, HV5.out.2.1.drew, HV5.out.2.2⟩ (fun hHeld => ?_)
          refine with_tabW ltext10.tab10 ltext10.bits10 (fun HT_ HW_ => ?_)
          refine pureI 0 (some 38) HT_ rfl rfl (by kernel_rfl) (by rfl) (fun _ => by go_simp; with_reducible rfl) (by simp only [Act.put, List.setIfInBounds_toArray, List.set_cons_zero, List.set_cons_succ]; rfl) ?_
          refine pureI 3 (some 41) HT_ rfl rfl (by kernel_rfl) (by rfl) (fun _ => by go_simp; with_reducible rfl) (by simp only [Act.put, List.setIfInBounds_toArray, List.set_cons_zero, List.set_cons_succ]; rfl) ?_
          refine pureI 4 (some 42) HT_ rfl rfl (by kernel_rfl) (by rfl) (fun _ => by go_simp; with_reducible rfl) (by simp only [Act.put, List.setIfInBounds_toArray, List.set_cons_zero, List.set_cons_succ]; rfl) ?_
          refine oneI 1 (some 39) HT_ rfl rfl (by kernel_rfl) (by decide) (fun K hK => ?_)
          refine val_ (by rfl) rfl (by go_simp; exact ⟨rfl, rfl⟩) ?_
          refine hK.out _ _ (hHeld.alloc _) (fun hHeld2 => ?_)
          clear hK K
          refine norm_ (a' := ?_) ?_ ?_
          rotate_left
          · show Act.put _ (some 39) _ = _
            simp only [Act.put, List.setIfInBounds_toArray, List.set_cons_zero, List.set_cons_succ]
            rfl
          refine lastI 2 (some 40) HT_ rfl rfl (by kernel_rfl) (by decide) (fun K hK => ?_)
          refine app_byte_ (by rfl) rfl (.tmp 38) (.tmp 39) 31 rfl (w.heap.size + 1) 5 i0 Tryz.underlying31 hi hz0 hz1 hz2 v1 _ _ rfl _ 34 hHeld rfl (by have := HL4.out; omega) ?_
          intro v2 w4 hb4
          have HB4 := Aside0.mk hb4
          clear hb4
          refine hK.out _ _ ?_
          clear hK K
          refine norm_ (a' := ?_) ?_ ?_
          rotate_left
          · show Act.put _ (some 40) _ = _
            simp only [Act.put, List.setIfInBounds_toArray, List.set_cons_zero, List.set_cons_succ]
            rfl
          refine pureI 5 (some 4) HT_ rfl rfl (by kernel_rfl) (by rfl) (fun _ => by go_simp; with_reducible rfl) (by simp only [Act.put, List.setIfInBounds_toArray, List.set_cons_zero, List.set_cons_succ]; rfl) ?_
          refine pureI 6 (some 5) HT_ rfl rfl (by kernel_rfl) (by rfl) (fun _ => by go_simp; with_reducible rfl) (by simp only [Act.put, List.setIfInBounds_toArray, List.set_cons_zero, List.set_cons_succ]; rfl) ?_
          refine done_ (done_of HT_.out (by kernel_rfl)) ?_
          go_wp2
          go_roundg k1
          case measure => omega
          case rel =>
            refine ⟨acc ++ pc ++ [34], p2, m + pc.length + 2, by simp only [List.length_cons] at hq; omega, by rw [← HSE.out], ⟨by have := HM.out; rw [hpl] at this; simp only [List.length_cons] at this; omega⟩, ⟨?_⟩, ⟨by have := HA.out; simp; omega⟩, ⟨?_⟩⟩
            · rw [HN0.out, HQ.out, unq_two]
              cases unq p2 with
              | none => rfl
              | some x =>
                simp only [Option.map_some, Option.some.injEq, Prod.mk.injEq]
                exact ⟨by simp, by omega⟩
            · have h := HB4.out
              rw [show ([Value.int .u8 34] : List Value) = Lib.byteCells [34] from rfl, byteCells_append] at h
              have e3 : (acc ++ pc ++ [(34 : UInt8)]).length = acc.length + pc.length + 1 := by rw [List.length_append, List.length_append]; rfl
              rw [e3]
              exact h
        · have HF := Aside0.mk (show strings_HasPrefix.f (bl p) (⟨#[34]⟩ : ByteArray) = some false from congrArg some (Bool.eq_false_iff.2 hpf))
          have HUr := Aside0.mk (show unq r = some (acc ++ pc, m + pc.length + 1) by
            rw [HN0.out, HQ.out, unq_close p (fun e => hpf (by rw [bl_data]; exact e))]
            simp only [Option.map_some, List.append_nil, Nat.add_assoc])
          clear hpf
          have hsp : (bl p).size = p.length := bl_size p
          have htl : (acc ++ pc).length = acc.length + pc.length := List.length_append
          generalize bl p = sp at HC HF hsp
          by_cases h255 : acc.length + pc.length ≤ 255
          · have HRs := Aside0.mk (show res = (tkV 2 0 (acc ++ pc) false 0, m + pc.length + 1 + 1, 0) by rw [HU.out, HUr.out]; simp only; rw [if_pos (by rw [htl]; exact h255)])
            have hd : decide (((acc.length + pc.length : Nat) : Int) > 255) = false := decide_eq_false (by omega)
            have hd2 : ¬((acc.length : Int) + (pc.length : Int) > 255) := by omega
            go_wp2_with (first
              | (go_at_call 41; refine (strings_Cut.calls _ _ _ _ _ _ HC.out).mono ?_; rintro e w2 ⟨rfl, nd, rfl⟩; have HV2 := Aside0.mk (HV.out.drewN nd))
              | (at_builtin; refine Lib.wpList_append_text rfl (.tmp 31) (.tmp 32) 31 9 rfl (w.heap.size + 1) 5 i0 Tryz.underlying31 Tryz.underlying9 hi hz0 hz1 hz2 u4 _ _ rfl (w.alloc (.cells ZTk 45)) HV2.out (bl pc) rfl (by rw [bl_size]; have := HL4.out; omega) ?_; intro v1 w3 hb3; rw [bl_size, strCells_bl, byteCells_append] at hb3; obtain ⟨A, cA, rfl⟩ := buf_slice hb3; have HV3 := Aside0.mk hb3; clear hb3)
              | (go_at_call 42; refine (strings_HasPrefix.calls _ _ _ _ HF.out).mono ?_; rintro e w5 ⟨rfl, nd2, rfl⟩; have HV5 := Aside0.mk (HV3.out.drewN nd2); have S5 := Aside0.mk (show IsSc w0 (w3.drewN nd2) g s (pre.length : Int) 0 from ⟨(HV3.out.2.1.block g (by omega)).trans (blk_alloc HI.out.1 _), HI.out.2⟩); have T5 := Aside0.mk (show (w3.drewN nd2).heap[w.heap.size]? = some (.cells ZTk 45 (0, 0)) from (HV3.out.2.1.block _ (by omega)).trans (newBlk w _)); have B5 := Aside0.mk (show Below w.heap.size w (w3.drewN nd2) from pw_below_drewN ((bel1 w _).trans (HV3.out.2.1.mono (by omega))) _); have hc := fun i => blk_cell S5.out.1 i; have hf := fun i => blk_frozen S5.out.1 i))
            have hS13 := (show (fun w' => w'.cell? ⟨g, 0, none⟩ = some (.string s) ∧ w'.cell? ⟨g, 1, none⟩ = some (.int .i64 (pre.length : Int)) ∧ w'.ownsRowF (w.heap.size + 1) 5 1 (.slice A (acc.length + pc.length) cA) (acc.length + pc.length) (Lib.byteCells (acc ++ pc)) ∧ (∃ cs, w'.heap[w.heap.size]? = some (.cells cs 45 (0, 0)) ∧ cs.size = 12) ∧ (IsSc w0 w' g s (pre.length : Int) 0 ∧ Below w0.heap.size w0 w' ∧ KeepBut w w' g none)) ((w3.drewN nd2).drew) from ⟨(blk_cell (blk_drew S5.out.1) 0).trans rfl, (blk_cell (blk_drew S5.out.1) 1).trans rfl, HV5.out.1, ⟨_, blk_drew T5.out, rfl⟩, ⟨blk_drew S5.out.1, S5.out.2⟩, below_drew1 (low HB.out B5.out), keep_drew (KeepBut.of_below B5.out g none)⟩)
            clear hc hf
            refine start_ (n := 19) (S := (fun w' => w'.cell? ⟨g, 0, none⟩ = some (.string s) ∧ w'.cell? ⟨g, 1, none⟩ = some (.int .i64 (pre.length : Int)) ∧ w'.ownsRowF (w.heap.size + 1) 5 1 (.slice A (acc.length + pc.length) cA) (acc.length + pc.length) (Lib.byteCells (acc ++ pc)) ∧ (∃ cs, w'.heap[w.heap.size]? = some (.cells cs 45 (0, 0)) ∧ cs.size = 12) ∧ (IsSc w0 w' g s (pre.length : Int) 0 ∧ Below w0.heap.size w0 w' ∧ KeepBut w w' g none))) (ds := []) #[false, false, false, false, false, false, false, false, false, false, false, false, false, false, false, false, false, false, false] (by kernel_rfl) rfl rfl hS13 (fun hHeld => ?_)
            refine with_tabW ltext13.tab13 ltext13.bits13 (fun HT_ HW_ => ?_)
            refine pureI 0 (some 49) HT_ rfl rfl (by kernel_rfl) (by rfl) (fun _ => by go_simp; with_reducible rfl) (by simp only [Act.put, List.setIfInBounds_toArray, List.set_cons_zero, List.set_cons_succ]; rfl) ?_
            refine pureI 4 (some 53) HT_ rfl rfl (by kernel_rfl) (by rfl) (fun _ => by go_simp; with_reducible rfl) (by simp only [Act.put, List.setIfInBounds_toArray, List.set_cons_zero, List.set_cons_succ]; rfl) ?_
            refine pureI 5 (some 54) HT_ rfl rfl (by kernel_rfl) (by rfl) (fun _ => by go_simp; with_reducible rfl) (by simp only [Act.put, List.setIfInBounds_toArray, List.set_cons_zero, List.set_cons_succ]; rfl) ?_
            refine pureI 6 (some 55) HT_ rfl rfl (by kernel_rfl) (by rfl) (fun _ => by go_simp; with_reducible rfl) (by simp only [Act.put, List.setIfInBounds_toArray, List.set_cons_zero, List.set_cons_succ]; rfl) ?_
            refine pureI 9 (some 58) HT_ rfl rfl (by kernel_rfl) (by rfl) (fun _ => by go_simp; with_reducible rfl) (by simp only [Act.put, List.setIfInBounds_toArray, List.set_cons_zero, List.set_cons_succ]; rfl) ?_
            refine pureI 10 (some 59) HT_ rfl rfl (by kernel_rfl) (by rfl) (fun _ => by go_simp; with_reducible rfl) (by simp only [Act.put, List.setIfInBounds_toArray, List.set_cons_zero, List.set_cons_succ]; rfl) ?_
            refine pureI 11 (some 60) HT_ rfl rfl (by kernel_rfl) (by rfl) (fun _ => by go_simp; with_reducible rfl) (by simp only [Act.put, List.setIfInBounds_toArray, List.set_cons_zero, List.set_cons_succ]; rfl) ?_
            refine pureI 14 (some 63) HT_ rfl rfl (by kernel_rfl) (by rfl) (fun _ => by go_simp; with_reducible rfl) (by simp only [Act.put, List.setIfInBounds_toArray, List.set_cons_zero, List.set_cons_succ]; rfl) ?_
            refine pureI 15 (some 64) HT_ rfl rfl (by kernel_rfl) (by rfl) (fun _ => by go_simp; with_reducible rfl) (by simp only [Act.put, List.setIfInBounds_toArray, List.set_cons_zero, List.set_cons_succ]; rfl) ?_
            refine takeI 1 (some 50) HT_ HW_ rfl rfl (by kernel_rfl) (by rfl) (by rintro w' ⟨s0, s1, s2, s3, s4⟩; have s5 := buf_conv htl s2; go_simp; with_reducible rfl) hHeld (by simp only [Act.put, List.setIfInBounds_toArray, List.set_cons_zero, List.set_cons_succ]; rfl) ?_
            refine pureI 2 (some 51) HT_ rfl rfl (by kernel_rfl) (by rfl) (fun _ => by go_simp; with_reducible rfl) (by simp only [Act.put, List.setIfInBounds_toArray, List.set_cons_zero, List.set_cons_succ]; rfl) ?_
            refine pureI 3 (some 52) HT_ rfl rfl (by kernel_rfl) (by rfl) (fun _ => by go_simp; with_reducible rfl) (by simp only [Act.put, List.setIfInBounds_toArray, List.set_cons_zero, List.set_cons_succ]; rfl) ?_
            refine takeI 7 (some 56) HT_ HW_ rfl rfl (by kernel_rfl) (by rfl) (by rintro w' ⟨s0, s1, s2, s3, s4⟩; have s5 := buf_conv htl s2; go_simp; with_reducible rfl) hHeld (by simp only [Act.put, List.setIfInBounds_toArray, List.set_cons_zero, List.set_cons_succ]; rfl) ?_
            refine pureI 8 (some 57) HT_ rfl rfl (by kernel_rfl) (by rfl) (fun _ => by go_simp; with_reducible rfl) (by simp only [Act.put, List.setIfInBounds_toArray, List.set_cons_zero, List.set_cons_succ]; rfl) ?_
            refine takeI 12 (some 61) HT_ HW_ rfl rfl (by kernel_rfl) (by rfl) (by rintro w' ⟨s0, s1, s2, s3, s4⟩; have s5 := buf_conv htl s2; go_simp; with_reducible rfl) hHeld (by simp only [Act.put, List.setIfInBounds_toArray, List.set_cons_zero, List.set_cons_succ]; rfl) ?_
            refine pureI 13 (some 62) HT_ rfl rfl (by kernel_rfl) (by rfl) (fun _ => by go_simp; with_reducible rfl) (by simp only [Act.put, List.setIfInBounds_toArray, List.set_cons_zero, List.set_cons_succ]; rfl) ?_
            refine pureI 16 (some 65) HT_ rfl rfl (by kernel_rfl) (by rfl) (fun _ => by go_simp; with_reducible rfl) (by simp only [Act.put, List.setIfInBounds_toArray, List.set_cons_zero, List.set_cons_succ]; rfl) ?_
            refine oneI 17 none HT_ rfl rfl (by kernel_rfl) (by decide) (fun K hK => ?_)
            obtain ⟨cs_, hcs, hcz⟩ := hHeld.2.2.2.1
            refine skip_ (by rfl) rfl (rowSkip (ty := 45) (x := .tmp 2) (y := .tmp 52) (g := w.heap.size) (cs := (TkA (tkV 2 0 (acc ++ pc) false 0))) rfl rfl rfl hcs (by kernel_rfl) hcz rfl) ?_
            have HT := Aside0.mk (setRow_heap _ _ _ ((TkA (tkV 2 0 (acc ++ pc) false 0))) _ _ hcs)
            have hI2 := rowOther (TkA (tkV 2 0 (acc ++ pc) false 0)) hHeld.2.2.2.2.1.1 hne2
            refine hK.out _ _ ⟨(blk_cell hI2 0).trans rfl, (blk_cell hI2 1).trans rfl, own_row hHeld.2.2.1 (Nat.lt_succ_self _) _, ⟨_, HT.out, rfl⟩, ⟨hI2, HI.out.2⟩, rowBelow hHeld.2.2.2.2.2.1 HB.out.size _, keepRow hHeld.2.2.2.2.2.2 (Nat.le_refl _) _⟩ (fun hHeld2 => ?_)
            have HR := Aside0.mk hHeld2.2.2.2.2
            clear hK K hI2 hHeld hHeld2 hcs hcz
            -- norm_
            refine pureI 18 (some 3) HT_ rfl rfl (by kernel_rfl) (by rfl) (fun _ => by go_simp; with_reducible rfl) (by simp only [Act.put, List.setIfInBounds_toArray, List.set_cons_zero, List.set_cons_succ]; rfl) ?_
            refine done_ (done_of HT_.out (by kernel_rfl)) ?_
            go_wp2
            refine bodyPost_ret (results_ct rfl _ _ (w.heap.size) 45 (TkA (tkV 2 0 (acc ++ pc) false 0)) (0, 0) _ rfl HT.out Tryz.underlying45 rfl (by kernel_rfl)) rfl ?_
            refine ⟨_, _, rfl, fun h => ?_, ?_, ?_, ?_⟩
            · rw [HRs.out]
              refine ⟨rfl, ?_⟩
              have h1 := HM.out
              have h2 := HLn.out
              rw [hpl] at h1
              simp only [i64_w]
              unfold wrap64
              omega
            · rw [HRs.out]; exact HR.out.1
            · exact HR.out.2.1
            · exact HR.out.2.2
          · have HRs := Aside0.mk (show res = (tkZ, 0, 7) by rw [HU.out, HUr.out]; simp only; rw [if_neg (by rw [htl]; exact h255)])
            have hd : decide (((acc.length + pc.length : Nat) : Int) > 255) = true := decide_eq_true (by omega)
            have hd2 : ((acc.length : Int) + (pc.length : Int) > 255) := by omega
            go_wp2_with (first
              | (go_at_call 41; refine (strings_Cut.calls _ _ _ _ _ _ HC.out).mono ?_; rintro e w2 ⟨rfl, nd, rfl⟩; have HV2 := Aside0.mk (HV.out.drewN nd))
              | (at_builtin; refine Lib.wpList_append_text rfl (.tmp 31) (.tmp 32) 31 9 rfl (w.heap.size + 1) 5 i0 Tryz.underlying31 Tryz.underlying9 hi hz0 hz1 hz2 u4 _ _ rfl (w.alloc (.cells ZTk 45)) HV2.out (bl pc) rfl (by rw [bl_size]; have := HL4.out; omega) ?_; intro v1 w3 hb3; rw [bl_size, strCells_bl, byteCells_append] at hb3; obtain ⟨A, cA, rfl⟩ := buf_slice hb3; have HV3 := Aside0.mk hb3; clear hb3)
              | (go_at_call 42; refine (strings_HasPrefix.calls _ _ _ _ HF.out).mono ?_; rintro e w5 ⟨rfl, nd2, rfl⟩; have HV5 := Aside0.mk (HV3.out.drewN nd2); have S5 := Aside0.mk (show IsSc w0 (w3.drewN nd2) g s (pre.length : Int) 0 from ⟨(HV3.out.2.1.block g (by omega)).trans (blk_alloc HI.out.1 _), HI.out.2⟩); have T5 := Aside0.mk (show (w3.drewN nd2).heap[w.heap.size]? = some (.cells ZTk 45 (0, 0)) from (HV3.out.2.1.block _ (by omega)).trans (newBlk w _)); have B5 := Aside0.mk (show Below w.heap.size w (w3.drewN nd2) from pw_below_drewN ((bel1 w _).trans (HV3.out.2.1.mono (by omega))) _); have hc := fun i => blk_cell S5.out.1 i; have hf := fun i => blk_frozen S5.out.1 i))
            have Q5 := blk_put S5.out.1 2 (.int .i64 7) rfl
            have hS13 := (show (fun w' => w'.cell? ⟨g, 0, none⟩ = some (.string s) ∧ w'.cell? ⟨g, 1, none⟩ = some (.int .i64 (pre.length : Int)) ∧ w'.ownsRowF (w.heap.size + 1) 5 1 (.slice A (acc.length + pc.length) cA) (acc.length + pc.length) (Lib.byteCells (acc ++ pc)) ∧ (∃ cs, w'.heap[w.heap.size]? = some (.cells cs 45 (0, 0)) ∧ cs.size = 12) ∧ (IsSc w0 w' g s (pre.length : Int) 7 ∧ Below w0.heap.size w0 w' ∧ KeepBut w w' g none)) (((w3.drewN nd2).setCell ⟨g, 2, none⟩ (.int .i64 7)).drew) from ⟨(blk_cell (blk_drew Q5) 0).trans rfl, (blk_cell (blk_drew Q5) 1).trans rfl, own_set HV5.out.1 (by omega), ⟨_, blk_drew (blk_far (p := ⟨g, 2, none⟩) T5.out hne1 _), rfl⟩, ⟨blk_drew Q5, S5.out.2⟩, below_drew1 ((low HB.out B5.out).setCell (p := ⟨g, 2, none⟩) HI.out.2 _), keep_drew ((KeepBut.of_below B5.out g none).set_ 2 _)⟩)
            clear hc hf
            refine start_ (n := 19) (S := (fun w' => w'.cell? ⟨g, 0, none⟩ = some (.string s) ∧ w'.cell? ⟨g, 1, none⟩ = some (.int .i64 (pre.length : Int)) ∧ w'.ownsRowF (w.heap.size + 1) 5 1 (.slice A (acc.length + pc.length) cA) (acc.length + pc.length) (Lib.byteCells (acc ++ pc)) ∧ (∃ cs, w'.heap[w.heap.size]? = some (.cells cs 45 (0, 0)) ∧ cs.size = 12) ∧ (IsSc w0 w' g s (pre.length : Int) 7 ∧ Below w0.heap.size w0 w' ∧ KeepBut w w' g none))) (ds := []) #[false, false, false, false, false, false, false, false, false, false, false, false, false, false, false, false, false, false, false] (by kernel_rfl) rfl rfl hS13 (fun hHeld => ?_)
            refine with_tabW ltext13.tab13 ltext13.bits13 (fun HT_ HW_ => ?_)
            refine pureI 0 (some 49) HT_ rfl rfl (by kernel_rfl) (by rfl) (fun _ => by go_simp; with_reducible rfl) (by simp only [Act.put, List.setIfInBounds_toArray, List.set_cons_zero, List.set_cons_succ]; rfl) ?_
            refine pureI 4 (some 53) HT_ rfl rfl (by kernel_rfl) (by rfl) (fun _ => by go_simp; with_reducible rfl) (by simp only [Act.put, List.setIfInBounds_toArray, List.set_cons_zero, List.set_cons_succ]; rfl) ?_
            refine pureI 5 (some 54) HT_ rfl rfl (by kernel_rfl) (by rfl) (fun _ => by go_simp; with_reducible rfl) (by simp only [Act.put, List.setIfInBounds_toArray, List.set_cons_zero, List.set_cons_succ]; rfl) ?_
            refine pureI 6 (some 55) HT_ rfl rfl (by kernel_rfl) (by rfl) (fun _ => by go_simp; with_reducible rfl) (by simp only [Act.put, List.setIfInBounds_toArray, List.set_cons_zero, List.set_cons_succ]; rfl) ?_
            refine pureI 9 (some 58) HT_ rfl rfl (by kernel_rfl) (by rfl) (fun _ => by go_simp; with_reducible rfl) (by simp only [Act.put, List.setIfInBounds_toArray, List.set_cons_zero, List.set_cons_succ]; rfl) ?_
            refine pureI 10 (some 59) HT_ rfl rfl (by kernel_rfl) (by rfl) (fun _ => by go_simp; with_reducible rfl) (by simp only [Act.put, List.setIfInBounds_toArray, List.set_cons_zero, List.set_cons_succ]; rfl) ?_
            refine pureI 11 (some 60) HT_ rfl rfl (by kernel_rfl) (by rfl) (fun _ => by go_simp; with_reducible rfl) (by simp only [Act.put, List.setIfInBounds_toArray, List.set_cons_zero, List.set_cons_succ]; rfl) ?_
            refine pureI 14 (some 63) HT_ rfl rfl (by kernel_rfl) (by rfl) (fun _ => by go_simp; with_reducible rfl) (by simp only [Act.put, List.setIfInBounds_toArray, List.set_cons_zero, List.set_cons_succ]; rfl) ?_
            refine pureI 15 (some 64) HT_ rfl rfl (by kernel_rfl) (by rfl) (fun _ => by go_simp; with_reducible rfl) (by simp only [Act.put, List.setIfInBounds_toArray, List.set_cons_zero, List.set_cons_succ]; rfl) ?_
            refine takeI 1 (some 50) HT_ HW_ rfl rfl (by kernel_rfl) (by rfl) (by rintro w' ⟨s0, s1, s2, s3, s4⟩; have s5 := buf_conv htl s2; go_simp; with_reducible rfl) hHeld (by simp only [Act.put, List.setIfInBounds_toArray, List.set_cons_zero, List.set_cons_succ]; rfl) ?_
            refine pureI 2 (some 51) HT_ rfl rfl (by kernel_rfl) (by rfl) (fun _ => by go_simp; with_reducible rfl) (by simp only [Act.put, List.setIfInBounds_toArray, List.set_cons_zero, List.set_cons_succ]; rfl) ?_
            refine pureI 3 (some 52) HT_ rfl rfl (by kernel_rfl) (by rfl) (fun _ => by go_simp; with_reducible rfl) (by simp only [Act.put, List.setIfInBounds_toArray, List.set_cons_zero, List.set_cons_succ]; rfl) ?_
            refine takeI 7 (some 56) HT_ HW_ rfl rfl (by kernel_rfl) (by rfl) (by rintro w' ⟨s0, s1, s2, s3, s4⟩; have s5 := buf_conv htl s2; go_simp; with_reducible rfl) hHeld (by simp only [Act.put, List.setIfInBounds_toArray, List.set_cons_zero, List.set_cons_succ]; rfl) ?_
            refine pureI 8 (some 57) HT_ rfl rfl (by kernel_rfl) (by rfl) (fun _ => by go_simp; with_reducible rfl) (by simp only [Act.put, List.setIfInBounds_toArray, List.set_cons_zero, List.set_cons_succ]; rfl) ?_
            refine takeI 12 (some 61) HT_ HW_ rfl rfl (by kernel_rfl) (by rfl) (by rintro w' ⟨s0, s1, s2, s3, s4⟩; have s5 := buf_conv htl s2; go_simp; with_reducible rfl) hHeld (by simp only [Act.put, List.setIfInBounds_toArray, List.set_cons_zero, List.set_cons_succ]; rfl) ?_
            refine pureI 13 (some 62) HT_ rfl rfl (by kernel_rfl) (by rfl) (fun _ => by go_simp; with_reducible rfl) (by simp only [Act.put, List.setIfInBounds_toArray, List.set_cons_zero, List.set_cons_succ]; rfl) ?_
            refine pureI 16 (some 65) HT_ rfl rfl (by kernel_rfl) (by rfl) (fun _ => by go_simp; with_reducible rfl) (by simp only [Act.put, List.setIfInBounds_toArray, List.set_cons_zero, List.set_cons_succ]; rfl) ?_
            refine oneI 17 none HT_ rfl rfl (by kernel_rfl) (by decide) (fun K hK => ?_)
            obtain ⟨cs_, hcs, hcz⟩ := hHeld.2.2.2.1
            refine skip_ (by rfl) rfl (rowSkip (ty := 45) (x := .tmp 2) (y := .tmp 52) (g := w.heap.size) (cs := (TkA (tkV 2 0 (acc ++ pc) false 0))) rfl rfl rfl hcs (by kernel_rfl) hcz rfl) ?_
            have HT := Aside0.mk (setRow_heap _ _ _ ((TkA (tkV 2 0 (acc ++ pc) false 0))) _ _ hcs)
            have hI2 := rowOther (TkA (tkV 2 0 (acc ++ pc) false 0)) hHeld.2.2.2.2.1.1 hne2
            refine hK.out _ _ ⟨(blk_cell hI2 0).trans rfl, (blk_cell hI2 1).trans rfl, own_row hHeld.2.2.1 (Nat.lt_succ_self _) _, ⟨_, HT.out, rfl⟩, ⟨hI2, HI.out.2⟩, rowBelow hHeld.2.2.2.2.2.1 HB.out.size _, keepRow hHeld.2.2.2.2.2.2 (Nat.le_refl _) _⟩ (fun hHeld2 => ?_)
            have HR := Aside0.mk hHeld2.2.2.2.2
            clear hK K hI2 hHeld hHeld2 hcs hcz
            -- norm_
            refine pureI 18 (some 3) HT_ rfl rfl (by kernel_rfl) (by rfl) (fun _ => by go_simp; with_reducible rfl) (by simp only [Act.put, List.setIfInBounds_toArray, List.set_cons_zero, List.set_cons_succ]; rfl) ?_
            refine done_ (done_of HT_.out (by kernel_rfl)) ?_
            go_wp2
            refine bodyPost_ret (results_ct rfl _ _ (w.heap.size) 45 (TkA (tkV 2 0 (acc ++ pc) false 0)) (0, 0) _ rfl HT.out Tryz.underlying45 rfl (by kernel_rfl)) rfl ?_
            refine ⟨_, _, rfl, fun h => ?_, ?_, ?_, ?_⟩
            · rw [HRs.out] at h; cases h
            · rw [HRs.out]; exact HR.out.1
            · exact HR.out.2.1
            · exact HR.out.2.2
end Go.Proofs.YtmppnobldhhpjaaGreatDoor.Pr
end
