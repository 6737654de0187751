/-
  Lemmas for the law FAllFTable.
-/
import Derived.Test.YtopdjokncbpghaaGreatDoorSFAllFTable23
import Derived.Test.YtopdjokncbpghaaGreatDoorSFAllFTable22
import Derived.Test.YtopdjokncbpghaaGreatDoorSFAllFTable15
import Derived.Test.YtopdjokncbpghaaGreatDoorSFAllFTable7
import Derived.Test.YtopdjokncbpghaaGreatDoorSFAllFTable14
import Derived.Test.YtopdjokncbpghaaGreatDoorSFAllFTable6
import Derived.Test.YtopdjokncbpghaaGreatDoorSFAllFTable5
import Derived.Laws.EntriesVeiled
import Derived.Deep.RegionHeld3
set_option maxHeartbeats 8000000
set_option maxRecDepth 100000
set_option linter.unusedVariables false
set_option linter.unusedSimpArgs false
section
namespace Go.Proofs.YtopdjokncbpghaaGreatDoor.Pr
open Go.RowKit Go.Proofs.YtopdjokncbpghaaGreatDoorW.PrintWords Go.Proofs.YtopdjokncbpghaaGreatDoorW.PrintLast Go.Proofs.YtopdjokncbpghaaGreatDoorW.PrintMore
theorem rowSkip {P : Program} {W : World} {g : Nat} {t ty : TypeId} {old cs : Array Value} {a : Act} {oi : Oper} {x y : Operand} (ho : oi.op = .store ty x y) (hx : a.eval x = .pointer (some ⟨g, 0, none⟩)) (hy : a.eval y = .agg cs)
  (hg : W.heap[g]? = some (.cells old t (0, 0))) (hi : (P.info? ty).map (·.size) = some cs.size) (hs : old.size = cs.size) (h1 : cs.toList.all (·.oneCell') = true) :
  (execOp a.eval oi).run P W = .ok .skip (W.setRow g cs) := by
 unfold execOp
 rw [ho]
 simp only [hx, hy]
 simp only [Sem.run_bind, rowSt hg hi hs h1, Result.andThen_ok, Sem.run_pure]
abbrev Tk := S120
abbrev TokC (w : World) (A : Option Addr) (c : Nat) (l : List Tk) : Prop := l.length ≤ c ∧ Kd.C k120 w A l.length l
theorem TokC.below {w w1 : World} {A : Option Addr} {c : Nat} {l : List Tk} (h : TokC w A c l) (hb : Below w.heap.size w w1) : TokC w1 A c l := ⟨h.1, Kd.C_below h.2 hb⟩
abbrev KidsP (W : World) (P : Nat → Prop) (A : Option Addr) (c : Nat) (l : List Nd) : Prop := l.length ≤ c ∧ Kd.F k44 W P A l.length l
theorem KidsP.below {W W1 : World} {P : Nat → Prop} {A : Option Addr} {c : Nat} {l : List Nd} (h : KidsP W P A c l) (hb : Below W.heap.size W W1) : KidsP W1 P A c l := ⟨h.1, Kd.F_below h.2 hb⟩
theorem KidsP.mono {W : World} {P Q : Nat → Prop} {A : Option Addr} {c : Nat} {l : List Nd} (h : KidsP W P A c l) (hb : ∀ k, P k → Q k) : KidsP W Q A c l := ⟨h.1, Kd.F_mono h.2 hb⟩
theorem KidsP.row {W : World} {P : Nat → Prop} {A : Option Addr} {c : Nat} {l : List Nd} (h : KidsP W P A c l) (g : Nat) (cs : Array Value) (hg : ∀ k, P k → k ≠ g) : KidsP (W.setRow g cs) P A c l := ⟨h.1, Kd.F_mono (Kd.F_step (ok := P) h.2 (fun z hz _ => setRow_other _ _ z _ (hg z hz))) (fun _ h => h)⟩
theorem KidsP.bnd {W : World} {P : Nat → Prop} {A : Option Addr} {c : Nat} {l : List Nd} (h : KidsP W P A c l) : KidsP W (fun k => P k ∧ k < W.heap.size) A c l := ⟨h.1, Kd.F_bound h.2⟩
theorem size_setRow (w : World) (g : Nat) (cs : Array Value) : (w.setRow g cs).heap.size = w.heap.size := by simp [World.setRow]
theorem kids_lit1 {W : World} {P : Nat → Prop} {A : Option Addr} {c g : Nat} (x : Nd) {t : TypeId} (hg : W.heap[g]? = some (.cells (nodeA x A c) t (0, 0))) (hP : P g) (h : KidsP W P A c x.f5) : KidsP W P (some ⟨g, 0, none⟩) 1 [x] := by
 refine ⟨Nat.le_refl _, fun W' hW => ⟨rfl, by simp, fun _ => ⟨⟨g, 0, none⟩, rfl, fun j p hj => ?_⟩⟩⟩
 match j, hj with
 | 0, hj =>
  obtain rfl : x = p := by simpa using hj
  refine ⟨(nodeA x A c).toList, rfl, k44_mk W' x h.1 (h.2 W' hW), fun i u hu => ?_⟩
  have hb : W'.heap[g]? = some (.cells (nodeA x A c) t (0, 0)) := (hW g hP (blk_lt hg)).trans hg
  have := blk_cell hb i
  rw [show (⟨g, 0, none⟩ : Addr).add (0 * k44.sz + i) = ⟨g, i, none⟩ by simp [Addr.add]; try (intro e; omega)]
  rw [this, ← Array.getElem?_toList]
  exact hu
 | k + 1, hj => simp at hj
abbrev nodeL (n : Nd) (A : Option Addr) (c : Nat) : List Value := [.int .i64 n.f0, .int .i64 n.f1.f0, .int .i64 n.f1.f1, .string n.f1.f2, .bool n.f1.f3, .int .i64 n.f1.f4, .int .i64 n.f2.f0.f0, .int .i64 n.f2.f0.f1, .bool n.f2.f1, .bool n.f2.f2, .int .i64 n.f3.f0.f0, .int .i64 n.f3.f0.f1, .bool n.f3.f1, .bool n.f3.f2, .string n.f4, .slice A n.f5.length c]
theorem kids_lit2 {W : World} {P : Nat → Prop} {A B : Option Addr} {c d g : Nat} (x y : Nd) {t : TypeId} {cs : Array Value} (hcs : cs.toList = nodeL x A c ++ nodeL y B d) (hg : W.heap[g]? = some (.cells cs t (0, 0))) (hP : P g) (h : KidsP W P A c x.f5) (h2 : KidsP W P B d y.f5) : KidsP W P (some ⟨g, 0, none⟩) 2 [x, y] := by
 refine ⟨Nat.le_refl _, fun W' hW => ⟨rfl, by simp, fun _ => ⟨⟨g, 0, none⟩, rfl, fun j p hj => ?_⟩⟩⟩
 have hb : W'.heap[g]? = some (.cells cs t (0, 0)) := (hW g hP (blk_lt hg)).trans hg
 have hc := fun i => blk_cell hb i
 have hsz : k44.sz = 16 := rfl
 match j, hj with
 | 0, hj =>
  obtain rfl : x = p := by simpa using hj
  refine ⟨nodeL x A c, rfl, k44_mk W' x h.1 (h.2 W' hW), fun i u hu => ?_⟩
  have hi : i < 16 := by
   rcases Nat.lt_or_ge i 16 with q | q
   ·exact q
   ·rw [List.getElem?_eq_none (by simpa using q)] at hu; cases hu
  rw [show (⟨g, 0, none⟩ : Addr).add (0 * k44.sz + i) = ⟨g, i, none⟩ by (simp [Addr.add]; try (intro e; omega)), hc, ← Array.getElem?_toList, hcs, List.getElem?_append_left (by simpa using hi)]
  exact hu
 | 1, hj =>
  obtain rfl : y = p := by simpa using hj
  refine ⟨nodeL y B d, rfl, k44_mk W' y h2.1 (h2.2 W' hW), fun i u hu => ?_⟩
  rw [show (⟨g, 0, none⟩ : Addr).add (1 * k44.sz + i) = ⟨g, 16 + i, none⟩ by (simp [Addr.add, hsz]; try (intro e; omega)), hc, ← Array.getElem?_toList, hcs, List.getElem?_append_right (by simp)]
  simpa using hu
 | k + 2, hj => simp at hj
structure Rd where
 n : Nd
 i : Int
 bad : Bool
abbrev rdA (n : Nd) (A : Option Addr) (c : Nat) (i : Int) (b : Bool) : Array Value := #[.int .i64 n.f0, .int .i64 n.f1.f0, .int .i64 n.f1.f1, .string n.f1.f2, .bool n.f1.f3, .int .i64 n.f1.f4, .int .i64 n.f2.f0.f0, .int .i64 n.f2.f0.f1, .bool n.f2.f1, .bool n.f2.f2, .int .i64 n.f3.f0.f0, .int .i64 n.f3.f0.f1, .bool n.f3.f1, .bool n.f3.f2, .string n.f4, .slice A n.f5.length c, .int .i64 i, .bool b]
def tokS (l : List Tk) (i : Int) : Option Tk := if 0 ≤ i ∧ i < (l.length : Int) then some (rd_T120 l i) else none
def isS (l : List Tk) (i : Int) (s : List UInt8) : Option Bool := foolscapref08_is.f l i ⟨s.toArray⟩
mutual
def readS : Nat → List Tk → Int → Int → Option Rd
 | 0, _, _, _ => none
 | k + 1, l, i, line =>
  if line = 5 then singleS k l i
  else if line = 4 then (isS l i [45]).bind fun b =>
   if b = true then (readS k l (wrap64 (i + 1)) 4).bind fun r => some ⟨⟨4, zeroV, zeroC, zeroC, ⟨#[]⟩, [r.n]⟩, r.i, r.bad⟩
   else readS k l i 5
  else (readS k l i (wrap64 (line + 1))).bind fun r => loopS k l line r
def loopS : Nat → List Tk → Int → Rd → Option Rd
 | 0, _, _, _ => none
 | k + 1, l, line, r =>
  if r.bad = true then some r
  else (tokS l r.i).bind fun t =>
   if t.f0 = 4 then
    if rLN t.f3 = line then (readS k l (wrap64 (r.i + 1)) (wrap64 (line + 1))).bind fun q =>
     if q.bad = true then some q
     else loopS k l line ⟨⟨5, zeroV, zeroC, zeroC, t.f3, [r.n, q.n]⟩, q.i, false⟩
    else some r
   else some r
def singleS : Nat → List Tk → Int → Option Rd
 | 0, _, _ => none
 | k + 1, l, i => (tokS l i).bind fun t =>
  if t.f0 = 1 then some ⟨⟨1, t.f1, zeroC, zeroC, ⟨#[]⟩, []⟩, wrap64 (i + 1), false⟩
  else if t.f0 = 2 then (isS l (wrap64 (i + 1)) [58]).bind fun b =>
   if b = true then (tokS l (wrap64 (i + 2))).bind fun u =>
    if u.f0 = 2 then some ⟨⟨3, zeroV, t.f2, u.f2, ⟨#[]⟩, []⟩, wrap64 (i + 3), false⟩ else some ⟨zeroN, wrap64 (i + 2), true⟩
   else some ⟨⟨2, zeroV, t.f2, zeroC, ⟨#[]⟩, []⟩, wrap64 (i + 1), false⟩
  else if t.f0 = 3 then (listS k l (wrap64 (i + 2))).bind fun p => some ⟨⟨6, zeroV, zeroC, zeroC, t.f3, p.1⟩, p.2.i, p.2.bad⟩
  else (isS l i [40]).bind fun b =>
   if b = true then (readS k l (wrap64 (i + 1)) 0).bind fun r =>
    if r.bad = true then some r
    else (isS l r.i [41]).bind fun e => if e = true then some ⟨r.n, wrap64 (r.i + 1), false⟩ else some ⟨zeroN, r.i, true⟩
   else some ⟨zeroN, i, true⟩
def listS : Nat → List Tk → Int → Option (List Nd × Rd)
 | 0, _, _ => none
 | k + 1, l, i => (isS l i [41]).bind fun b => if b = true then some ([], ⟨zeroN, wrap64 (i + 1), false⟩) else listL k l i []
def listL : Nat → List Tk → Int → List Nd → Option (List Nd × Rd)
 | 0, _, _, _ => none
 | k + 1, l, i, out => (readS k l i 0).bind fun r =>
  if r.bad = true then some ([], r)
  else if 4096 ≤ out.length then none
  else (isS l r.i [41]).bind fun b =>
   if b = true then some (out ++ [r.n], ⟨zeroN, wrap64 (r.i + 1), false⟩)
   else (isS l r.i [44]).bind fun c => if c = true then listL k l (wrap64 (r.i + 1)) (out ++ [r.n]) else some ([], ⟨zeroN, r.i, true⟩)
end
def ReadOut (r : Rd) (w : World) (e : Ending) (w' : World) : Prop := ∃ A c, e = .returned (.agg (rdA r.n A c r.i r.bad)) ∧ KidsF w' w.heap.size A c r.n.f5 ∧ Below w.heap.size w w'
def ListOut (l : List Nd) (r : Rd) (w : World) (e : Ending) (w' : World) : Prop := ∃ A c B d, e = .returned (.tuple #[.slice A l.length c, .agg (rdA r.n B d r.i r.bad)]) ∧ KidsF w' w.heap.size A c l ∧ KidsF w' w.heap.size B d r.n.f5 ∧ Below w.heap.size w w'
def ReadLaw (k : Nat) : Prop := ∀ (l : List Tk) (i line : Int) (R : Rd) (A : Option Addr) (c : Nat) (w : World), TokC w A c l → readS k l i line = some R → Calls Tryz.prog 70 #[.slice A l.length c, .int .i64 i, .int .i64 line] w (ReadOut R w)
def SingleLaw (k : Nat) : Prop := ∀ (l : List Tk) (i : Int) (R : Rd) (A : Option Addr) (c : Nat) (w : World), TokC w A c l → singleS k l i = some R → Calls Tryz.prog 93 #[.slice A l.length c, .int .i64 i] w (ReadOut R w)
def ListLaw (k : Nat) : Prop := ∀ (l : List Tk) (i : Int) (L : List Nd) (R : Rd) (A : Option Addr) (c : Nat) (w : World), TokC w A c l → listS k l i = some (L, R) → Calls Tryz.prog 117 #[.slice A l.length c, .int .i64 i] w (ListOut L R w)
theorem read_five (l : List Tk) (i : Int) (R : Rd) (A : Option Addr) (c : Nat) (w : World) (HS : Aside0 (∀ W, Below w.heap.size w W → Calls Tryz.prog 93 #[.slice A l.length c, .int .i64 i] W (ReadOut R W))) :
  Calls Tryz.prog 70 #[.slice A l.length c, .int .i64 i, .int .i64 5] w (ReadOut R w) := by
 go_enter Tryz.func70, Tryz.ntmps70
 go_wp2_with (first
  | (go_at_call 93; (with_reducible refine (HS.out _ (bel1 w _)).mono ?_); rintro e w1 ⟨A2, c2, rfl, hF, hb⟩; have HF := Aside0.mk hF; have HB1 := Aside0.mk (below_step (bel1 w _) hb); have B6 := Aside0.mk (blk_below (newBlk w _) hb); clear hb hF)
  | ((with_reducible refine gate_store (t := 116) (p := 6) (v := .tmp 15) rfl ?_); refine wpRowSt rfl 116 (.tmp 6) (.tmp 15) rfl (w.heap.size) (rdA R.n A2 c2 R.i R.bad) rfl rfl 116 _ (B6.out) (by kernel_rfl) rfl rfl ?_))
 refine bodyPost_ret (results_cell_row rfl _ _ (w.heap.size) 116 (rdA R.n A2 c2 R.i R.bad) (0, 0) _ rfl (setRow_heap _ _ _ _ _ _ (B6.out)) Tryz.underlying116 rfl (by kernel_rfl)) rfl ?_
 exact ⟨A2, c2, rfl, KidsP.mono (KidsP.row HF.out _ _ (fun k hk => by simp at hk; omega)) (fun k hk => by simp at hk; omega), rowBelow HB1.out (Nat.le_refl _) _⟩
theorem read_plus (l : List Tk) (i : Int) (R : Rd) (A : Option Addr) (c : Nat) (w : World) (HT : Aside0 (TokC w A c l)) (HI : Aside0 (foolscapref08_is.f l i ⟨#[45]⟩ = some false)) (HS : Aside0 (∀ W, Below w.heap.size w W → Calls Tryz.prog 70 #[.slice A l.length c, .int .i64 i, .int .i64 5] W (ReadOut R W))) :
  Calls Tryz.prog 70 #[.slice A l.length c, .int .i64 i, .int .i64 4] w (ReadOut R w) := by
 go_enter Tryz.func70, Tryz.ntmps70
 go_wp2_with (first
  | (go_at_call 94; (with_reducible refine (foolscapref08_is.calls _ _ _ _ _ _ _ (HT.out.below (bel1 w _)).2 HT.out.1 HI.out).mono ?_); rintro e w1 ⟨rfl, nd, rfl⟩)
  | (go_at_call 70; (with_reducible refine (HS.out _ (pw_below_drewN (bel1 w _) _)).mono ?_); rintro e w2 ⟨A2, c2, rfl, hF, hb⟩; have HF := Aside0.mk hF; have HB1 := Aside0.mk (below_step (pw_below_drewN (bel1 w _) _) hb); have B6 := Aside0.mk (blk_below (blk_drewN (newBlk w _) _) hb); clear hb hF)
  | ((with_reducible refine gate_store (t := 116) (p := 6) (v := .tmp 24) rfl ?_); refine wpRowSt rfl 116 (.tmp 6) (.tmp 24) rfl (w.heap.size) (rdA R.n A2 c2 R.i R.bad) rfl rfl 116 _ (B6.out) (by kernel_rfl) rfl rfl ?_))
 refine bodyPost_ret (results_cell_row rfl _ _ (w.heap.size) 116 (rdA R.n A2 c2 R.i R.bad) (0, 0) _ rfl (setRow_heap _ _ _ _ _ _ (B6.out)) Tryz.underlying116 rfl (by kernel_rfl)) rfl ?_
 exact ⟨A2, c2, rfl, KidsP.mono (KidsP.row HF.out _ _ (fun k hk => by simp at hk; omega)) (fun k hk => by simp at hk; omega), rowBelow HB1.out (Nat.le_refl _) _⟩
theorem read_minus (l : List Tk) (i : Int) (R : Rd) (A : Option Addr) (c : Nat) (w : World) (HT : Aside0 (TokC w A c l)) (HI : Aside0 (foolscapref08_is.f l i ⟨#[45]⟩ = some true)) (HS : Aside0 (∀ W, Below w.heap.size w W → Calls Tryz.prog 70 #[.slice A l.length c, .int .i64 (wrap64 (i + 1)), .int .i64 4] W (ReadOut R W))) :
  Calls Tryz.prog 70 #[.slice A l.length c, .int .i64 i, .int .i64 4] w (ReadOut ⟨⟨4, zeroV, zeroC, zeroC, ⟨#[]⟩, [R.n]⟩, R.i, R.bad⟩ w) := by
 go_enter Tryz.func70, Tryz.ntmps70
 go_wp2_with (first
  | (go_at_call 94; (with_reducible refine (foolscapref08_is.calls _ _ _ _ _ _ _ (HT.out.below (bel1 w _)).2 HT.out.1 HI.out).mono ?_); rintro e w1 ⟨rfl, nd, rfl⟩)
  | (go_at_call 70; (with_reducible refine (HS.out _ (pw_below_drewN (bel1 w _) _)).mono ?_); rintro e w2 ⟨A2, c2, rfl, hF, hb⟩; have HF := Aside0.mk (KidsP.bnd hF); have HB1 := Aside0.mk (below_step (pw_below_drewN (bel1 w _) _) hb); have B6 := Aside0.mk (blk_below (blk_drewN (newBlk w _) _) hb); have hg := blk_lt B6.out; clear hb hF)
  | ((with_reducible refine gate_store (t := 116) (p := 7) (v := .tmp 28) rfl ?_); refine wpRowSt rfl 116 (.tmp 7) (.tmp 28) rfl (w2.heap.size) (rdA R.n A2 c2 R.i R.bad) rfl rfl 116 _ (newBlk w2 _) (by kernel_rfl) rfl rfl ?_; have hV : ((w2.alloc (.cells Z18 116)).setRow w2.heap.size (rdA R.n A2 c2 R.i R.bad)).heap.size = w2.heap.size + 1 := (size_setRow _ _ _).trans (by simp); have H7 := Aside0.mk (setRow_heap _ _ _ (rdA R.n A2 c2 R.i R.bad) _ _ (newBlk w2 (.cells Z18 116))); have hc7 := fun i => blk_cell H7.out i)
  | ((with_reducible refine gate_dst (N := 30) rfl ?_); refine wpPartLd 30 rfl rfl 44 (.tmp 29) rfl (w2.heap.size) rfl _ (nodeA R.n A2 c2) [.int .i64 R.i, .bool R.bad] (H7.out) rfl Tryz.underlying44 rfl (by kernel_rfl) ?_)
  | ((with_reducible refine gate_store (t := 44) (p := 33) (v := .tmp 32) rfl ?_); refine wpPartSt rfl 44 (.tmp 33) (.tmp 32) rfl (w2.heap.size) (nodeA ⟨4, zeroV, zeroC, zeroC, ⟨#[]⟩, [R.n]⟩ (some ⟨w2.heap.size + 1, 0, none⟩) 1) #[.int .i64 4, .int .i64 0, .int .i64 0, .string ⟨#[]⟩, .bool false, .int .i64 0, .int .i64 0, .int .i64 0, .bool false, .bool false, .int .i64 0, .int .i64 0, .bool false, .bool false, .string ⟨#[]⟩, .slice (some ⟨w2.heap.size + 1, 0, none⟩) 1 1, .int .i64 R.i, .bool R.bad] rfl rfl 116 _ (blk_alloc H7.out _) (by kernel_rfl) (show 16 ≤ 18 by omega) rfl rfl ?_; have hc8 := fun i => blk_cell (setRow_heap _ _ _ #[.int .i64 4, .int .i64 0, .int .i64 0, .string ⟨#[]⟩, .bool false, .int .i64 0, .int .i64 0, .int .i64 0, .bool false, .bool false, .int .i64 0, .int .i64 0, .bool false, .bool false, .string ⟨#[]⟩, .slice (some ⟨w2.heap.size + 1, 0, none⟩) 1 1, .int .i64 R.i, .bool R.bad] _ _ (blk_alloc H7.out (.cells (nodeA R.n A2 c2) 44))) i; have h8 := newBlk ((w2.alloc (.cells Z18 116)).setRow w2.heap.size (rdA R.n A2 c2 R.i R.bad)) (.cells (nodeA R.n A2 c2) 44); rw [hV] at h8; have H8 := Aside0.mk h8; clear h8)
  | ((with_reducible refine gate_dst (N := 34) rfl ?_); refine wpPartLd 34 rfl rfl 116 (.tmp 7) rfl (w2.heap.size) rfl _ #[.int .i64 4, .int .i64 0, .int .i64 0, .string ⟨#[]⟩, .bool false, .int .i64 0, .int .i64 0, .int .i64 0, .bool false, .bool false, .int .i64 0, .int .i64 0, .bool false, .bool false, .string ⟨#[]⟩, .slice (some ⟨w2.heap.size + 1, 0, none⟩) 1 1, .int .i64 R.i, .bool R.bad] [] (setRow_heap _ _ _ #[.int .i64 4, .int .i64 0, .int .i64 0, .string ⟨#[]⟩, .bool false, .int .i64 0, .int .i64 0, .int .i64 0, .bool false, .bool false, .int .i64 0, .int .i64 0, .bool false, .bool false, .string ⟨#[]⟩, .slice (some ⟨w2.heap.size + 1, 0, none⟩) 1 1, .int .i64 R.i, .bool R.bad] _ _ (blk_alloc H7.out _)) rfl Tryz.underlying116 rfl (by kernel_rfl) ?_)
  | ((with_reducible refine gate_store (t := 116) (p := 6) (v := .tmp 34) rfl ?_); refine wpRowSt rfl 116 (.tmp 6) (.tmp 34) rfl (w.heap.size) #[.int .i64 4, .int .i64 0, .int .i64 0, .string ⟨#[]⟩, .bool false, .int .i64 0, .int .i64 0, .int .i64 0, .bool false, .bool false, .int .i64 0, .int .i64 0, .bool false, .bool false, .string ⟨#[]⟩, .slice (some ⟨w2.heap.size + 1, 0, none⟩) 1 1, .int .i64 R.i, .bool R.bad] rfl rfl 116 _ (rowOther _ (blk_alloc (rowOther _ (blk_alloc B6.out _) (g := w2.heap.size) (by omega)) _) (g := w2.heap.size) (by omega)) (by kernel_rfl) rfl rfl ?_))
 refine bodyPost_ret (results_cell_row rfl _ _ (w.heap.size) 116 #[.int .i64 4, .int .i64 0, .int .i64 0, .string ⟨#[]⟩, .bool false, .int .i64 0, .int .i64 0, .int .i64 0, .bool false, .bool false, .int .i64 0, .int .i64 0, .bool false, .bool false, .string ⟨#[]⟩, .slice (some ⟨w2.heap.size + 1, 0, none⟩) 1 1, .int .i64 R.i, .bool R.bad] (0, 0) _ rfl (setRow_heap _ _ _ _ _ _ (rowOther _ (blk_alloc (rowOther _ (blk_alloc B6.out _) (g := w2.heap.size) (by omega)) _) (g := w2.heap.size) (by omega))) Tryz.underlying116 rfl (by kernel_rfl)) rfl ?_
 exact ⟨some ⟨w2.heap.size + 1, 0, none⟩, 1, rfl, kids_lit1 R.n (rowOther _ (rowOther _ H8.out (g := w2.heap.size) (by omega)) (g := w.heap.size) (by omega)) (by show w.heap.size ≤ _; omega) (KidsP.mono (KidsP.row (KidsP.row (KidsP.below HF.out (below_alloc (rowBelow (bel1 w2 _) (Nat.le_refl _) _) _)) _ _ (fun k hk => by have := hk.2; omega)) _ _ (fun k hk => by have := hk.1; simp at this; omega)) (fun k hk => by have := hk.1; simp at this; omega)), rowBelow (rowBelow (below_alloc (rowBelow (below_alloc HB1.out _) (by omega) _) _) (by omega) _) (Nat.le_refl _) _⟩
theorem read_line (k : Nat) (l : List Tk) (i0 line : Int) (r1 R : Rd) (A : Option Addr) (c : Nat) (w : World) (HT : Aside0 (TokC w A c l)) (h5 : ¬line = 5) (h4 : ¬line = 4) (HS : Aside0 (∀ W, Below w.heap.size w W → Calls Tryz.prog 70 #[.slice A l.length c, .int .i64 i0, .int .i64 (wrap64 (line + 1))] W (ReadOut r1 W)))
  (HQ : Aside0 (∀ (j : Int) (q : Rd) (m : Nat) (W : World), m ≤ k → readS m l j (wrap64 (line + 1)) = some q → Below w.heap.size w W → Calls Tryz.prog 70 #[.slice A l.length c, .int .i64 j, .int .i64 (wrap64 (line + 1))] W (ReadOut q W))) (HA0 : Aside0 (loopS k l line r1 = some R)) :
  Calls Tryz.prog 70 #[.slice A l.length c, .int .i64 i0, .int .i64 line] w (ReadOut R w) := by
 have hb5 : (line == 5) = false := by simp [h5]
 have hb4 : (line == 4) = false := by simp [h4]
 have hlc := HT.out.1
 have hmax := HT.out.2.2.1
 go_enter Tryz.func70, Tryz.ntmps70
 go_wp2_with (first
  | (go_at_call 70; (with_reducible refine (HS.out _ (bel1 w _)).mono ?_); clear HS; rintro e w1 ⟨A1, c1, rfl, hF, hb⟩; have HF := Aside0.mk (KidsP.bnd hF); have HB1 := Aside0.mk (below_step (bel1 w _) hb); have B6 := Aside0.mk (blk_below (newBlk w _) hb); have hg := blk_lt B6.out; clear hb hF)
  | ((with_reducible refine gate_store (t := 116) (p := 8) (v := .tmp 39) rfl ?_); refine wpRowSt rfl 116 (.tmp 8) (.tmp 39) rfl (w1.heap.size) (rdA r1.n A1 c1 r1.i r1.bad) rfl rfl 116 _ (newBlk w1 _) (by kernel_rfl) rfl rfl ?_))
 have hsz : (w.alloc (.cells Z18 116)).heap.size = w.heap.size + 1 := by simp
 have hK0 := Aside0.mk (KidsP.mono (KidsP.row (KidsP.below HF.out (bel1 w1 (.cells Z18 116))) w1.heap.size (rdA r1.n A1 c1 r1.i r1.bad) (fun k hk => by have := hk.2; omega)) (Q := fun z => w.heap.size + 1 ≤ z ∧ z ≠ w1.heap.size) (fun k hk => by have h1 := hk.1; have h2 := hk.2; rw [hsz] at h1; omega))
 have hB0 := Aside0.mk (rowBelow (below_alloc HB1.out (.cells Z18 116)) (show w.heap.size ≤ w1.heap.size by omega) (rdA r1.n A1 c1 r1.i r1.bad))
 have h60 := Aside0.mk (rowOther (rdA r1.n A1 c1 r1.i r1.bad) (blk_alloc B6.out (.cells Z18 116)) (g := w1.heap.size) (by omega))
 have h80 := Aside0.mk (setRow_heap _ _ _ (rdA r1.n A1 c1 r1.i r1.bad) _ _ (newBlk w1 (.cells Z18 116)))
 generalize (w1.alloc (.cells Z18 116)).setRow w1.heap.size (rdA r1.n A1 c1 r1.i r1.bad) = w2 at hK0 hB0 h60 h80 ⊢
 generalize w1.heap.size = g8 at hg hK0 h80 ⊢
 clear HF HB1 B6 hsz
 rw [show ∀ (a : Act) (v : Value), a.put none v = a from fun _ _ => rfl]
 go_loopg [9] k (fun kq v9 w' => ∃ (r : Rd) (A2 : Option Addr) (c2 : Nat), Aside0 (loopS kq l line r = some R) ∧ Aside0 (kq ≤ k) ∧ Aside0 (w'.heap[g8]? = some (.cells (rdA r.n A2 c2 r.i r.bad) 116 (0, 0))) ∧ Aside0 (KidsP w' (fun z => w.heap.size + 1 ≤ z ∧ z ≠ g8) A2 c2 r.n.f5) ∧ Aside0 (Below w.heap.size w w') ∧ Aside0 (w'.heap[w.heap.size]? = some (.cells Z18 116 (0, 0))))
 case atStart => exact ⟨r1, A1, c1, HA0, ⟨Nat.le_refl _⟩, h80, hK0, hB0, h60⟩
 case round =>
  clear HA0 h80 hK0 hB0 h60
  obtain ⟨⟨n, i, b⟩, A2, c2, HA, HK1, H8, HK, HB, B6⟩ := hrel
  simp only at HA H8 HK
  cases gk with
  | zero => exact absurd HA.out (by simp [loopS])
  | succ k1 =>
   have HAo := HA.out
   rw [loopS] at HAo
   clear HA
   have hc8 := fun i => blk_cell H8.out i
   cases b with
   | true =>
    simp only [if_true] at HAo
    obtain rfl := Option.some.inj HAo
    clear HAo
    go_wp2_with (first
     | ((with_reducible refine gate_dst (N := 89) rfl ?_); refine wpPartLd 89 rfl rfl 116 (.tmp 8) rfl (g8) rfl _ (rdA n A2 c2 i true) [] (H8.out) rfl Tryz.underlying116 rfl (by kernel_rfl) ?_)
     | ((with_reducible refine gate_store (t := 116) (p := 6) (v := .tmp 89) rfl ?_); refine wpRowSt rfl 116 (.tmp 6) (.tmp 89) rfl (w.heap.size) (rdA n A2 c2 i true) rfl rfl 116 _ (B6.out) (by kernel_rfl) rfl rfl ?_))
    refine bodyPost_ret (results_cell_row rfl _ _ (w.heap.size) 116 (rdA n A2 c2 i true) (0, 0) _ rfl (setRow_heap _ _ _ _ _ _ B6.out) Tryz.underlying116 rfl (by kernel_rfl)) rfl ?_
    exact ⟨A2, c2, rfl, KidsP.mono (KidsP.row HK.out _ _ (fun k hk => by have := hk.1; omega)) (fun k hk => by have := hk.1; omega), rowBelow HB.out (Nat.le_refl _) _⟩

   | false =>
    simp only [Bool.false_eq_true, if_false] at HAo
    have hr0 : ∃ t, tokS l i = some t := by
     cases hq : tokS l i with
     | none => rw [hq] at HAo; cases HAo
     | some t => exact ⟨t, rfl⟩
    obtain ⟨t, ht⟩ := hr0
    rw [ht] at HAo
    simp only [Option.bind_some] at HAo
    have hrng : 0 ≤ i ∧ i < (l.length : Int) := by
     unfold tokS at ht
     split at ht
     ·assumption
     ·cases ht
    have htt : rd_T120 l i = t := by
     unfold tokS at ht
     rw [if_pos hrng] at ht
     exact Option.some.inj ht
    obtain ⟨ad, eA, x0, x1, x2, x3, x4, x5, x6, x7, x8, x9, x10, x11⟩ := at_T120 (Kd.C_below HT.out.2 HB.out) i hrng.1 hrng.2
    rw [htt] at x0 x1 x2 x3 x4 x5 x6 x7 x8 x9 x10 x11
    subst eA
    have p1 := eq_true hrng.1
    have p2 := eq_true hrng.2
    clear ht htt hrng
    have HLn := Aside0.mk (rLN_eq t.f3)
    generalize rLN t.f3 = ln at HLn HAo
    by_cases k4 : t.f0 = 4
    ·rw [if_pos k4] at HAo
     have k4b : (t.f0 == 4) = true := by simp [k4]
     clear k4
     by_cases kl : ln = line
     ·rw [if_pos kl] at HAo
      subst kl
      have hr1 : ∃ q, readS k1 l (wrap64 (i + 1)) (wrap64 (ln + 1)) = some q := by
       cases hq : readS k1 l (wrap64 (i + 1)) (wrap64 (ln + 1)) with
       | none => rw [hq] at HAo; cases HAo
       | some q => exact ⟨q, rfl⟩
      obtain ⟨q, hq⟩ := hr1
      rw [hq] at HAo
      simp only [Option.bind_some] at HAo
      have HQc := Aside0.mk fun (W : World) (h : Below w.heap.size w W) => HQ.out _ q k1 W (by have := HK1.out; omega) hq h
      clear hq
      obtain ⟨qn, qi, qb⟩ := q
      simp only at HAo
      have HA2 := Aside0.mk HAo
      clear HAo
      have hlt8 := blk_lt H8.out
      cases qb with
      | true =>
       go_wp2_with (first
        | (go_at_call 84; (with_reducible refine (foolscapref08_Line.calls _ _ _ _ HLn.out).mono ?_); rintro e w1 ⟨rfl, nd, rfl⟩; have G8 := Aside0.mk (blk_drewN H8.out nd); have G6 := Aside0.mk (blk_drewN B6.out nd); have GB := Aside0.mk (pw_below_drewN HB.out nd); have GK := Aside0.mk (KidsP.below HK.out (pw_below_drewN (Below.refl _ _) nd)); have hg8 := fun i => blk_cell G8.out i)
        | (go_at_call 70; (with_reducible refine (HQc.out _ GB.out).mono ?_); clear HQc; rintro e w3 ⟨A3, c3, rfl, hF, hb⟩; have q8 := blk_lt G8.out; have q6 := blk_lt G6.out; have HF3 := Aside0.mk (KidsP.mono (KidsP.bnd hF) (Q := fun k => g8 < k ∧ k < w3.heap.size) (fun k hk => ⟨Nat.lt_of_lt_of_le q8 hk.1, hk.2⟩)); have HB3 := Aside0.mk (below_step GB.out hb); have K3 := Aside0.mk (KidsP.bnd (KidsP.below GK.out hb)); replace G8 := Aside0.mk (blk_below G8.out hb); replace G6 := Aside0.mk (blk_below G6.out hb); have hlt3 := blk_lt G8.out; have hlt6 := blk_lt G6.out; have hsz3 := hb.size; clear hb hF)
        | ((with_reducible refine gate_store (t := 116) (p := 10) (v := .tmp 75) rfl ?_); refine wpRowSt rfl 116 (.tmp 10) (.tmp 75) rfl (w3.heap.size) (rdA qn A3 c3 qi true) rfl rfl 116 _ (newBlk w3 _) (by kernel_rfl) rfl rfl ?_; have G10 := Aside0.mk (setRow_heap _ _ _ (rdA qn A3 c3 qi true) _ _ (newBlk w3 (.cells Z18 116))); have V8 := Aside0.mk (rowOther (rdA qn A3 c3 qi true) (blk_alloc G8.out (.cells Z18 116)) (g := w3.heap.size) (by omega)); have hc10 := fun i => blk_cell G10.out i; have hd10 := fun (o : Obj) (i : Nat) => blk_cell (blk_alloc G10.out o) i)
        | ((with_reducible refine gate_dst (N := 78) rfl ?_); refine wpPartLd 78 rfl rfl 116 (.tmp 10) rfl (w3.heap.size) rfl _ (rdA qn A3 c3 qi true) [] (G10.out) rfl Tryz.underlying116 rfl (by kernel_rfl) ?_)
        | ((with_reducible refine gate_store (t := 116) (p := 6) (v := .tmp 78) rfl ?_); refine wpRowSt rfl 116 (.tmp 6) (.tmp 78) rfl (w.heap.size) (rdA qn A3 c3 qi true) rfl rfl 116 _ (rowOther _ (blk_alloc G6.out _) (g := w3.heap.size) (by omega)) (by kernel_rfl) rfl rfl ?_))
       refine bodyPost_ret (results_cell_row rfl _ _ (w.heap.size) 116 (rdA qn A3 c3 qi true) (0, 0) _ rfl (setRow_heap _ _ _ _ _ _ (rowOther _ (blk_alloc G6.out _) (g := w3.heap.size) (by omega))) Tryz.underlying116 rfl (by kernel_rfl)) rfl ?_
       obtain rfl := Option.some.inj (show some _ = some R from HA2.out)
       exact ⟨A3, c3, rfl, KidsP.mono (KidsP.row (KidsP.row (KidsP.below HF3.out (bel1 w3 _)) _ _ (fun k hk => by have := hk.2; omega)) _ _ (fun k hk => by have := hk.1; omega)) (fun k hk => by have := hk.1; show w.heap.size ≤ k; omega), rowBelow (rowBelow (below_alloc HB3.out _) (by omega) _) (Nat.le_refl _) _⟩
      | false =>
       go_wp2_with (first
        | (go_at_call 84; (with_reducible refine (foolscapref08_Line.calls _ _ _ _ HLn.out).mono ?_); rintro e w1 ⟨rfl, nd, rfl⟩; have G8 := Aside0.mk (blk_drewN H8.out nd); have G6 := Aside0.mk (blk_drewN B6.out nd); have GB := Aside0.mk (pw_below_drewN HB.out nd); have GK := Aside0.mk (KidsP.below HK.out (pw_below_drewN (Below.refl _ _) nd)); have hg8 := fun i => blk_cell G8.out i)
        | (go_at_call 70; (with_reducible refine (HQc.out _ GB.out).mono ?_); clear HQc; rintro e w3 ⟨A3, c3, rfl, hF, hb⟩; have q8 := blk_lt G8.out; have q6 := blk_lt G6.out; have HF3 := Aside0.mk (KidsP.mono (KidsP.bnd hF) (Q := fun k => g8 < k ∧ k < w3.heap.size) (fun k hk => ⟨Nat.lt_of_lt_of_le q8 hk.1, hk.2⟩)); have HB3 := Aside0.mk (below_step GB.out hb); have K3 := Aside0.mk (KidsP.bnd (KidsP.below GK.out hb)); replace G8 := Aside0.mk (blk_below G8.out hb); replace G6 := Aside0.mk (blk_below G6.out hb); have hlt3 := blk_lt G8.out; have hlt6 := blk_lt G6.out; have hsz3 := hb.size; clear hb hF)
        | ((with_reducible refine gate_store (t := 116) (p := 10) (v := .tmp 75) rfl ?_); refine wpRowSt rfl 116 (.tmp 10) (.tmp 75) rfl (w3.heap.size) (rdA qn A3 c3 qi false) rfl rfl 116 _ (newBlk w3 _) (by kernel_rfl) rfl rfl ?_; have G10 := Aside0.mk (setRow_heap _ _ _ (rdA qn A3 c3 qi false) _ _ (newBlk w3 (.cells Z18 116))); have V8 := Aside0.mk (rowOther (rdA qn A3 c3 qi false) (blk_alloc G8.out (.cells Z18 116)) (g := w3.heap.size) (by omega)); have hc10 := fun i => blk_cell G10.out i; have hd10 := fun (o : Obj) (i : Nat) => blk_cell (blk_alloc G10.out o) i)
        | ((with_reducible refine gate_dst (N := 81) rfl ?_); refine wpPartLd 81 rfl rfl 44 (.tmp 80) rfl (g8) rfl _ (nodeA n A2 c2) [.int .i64 i, .bool false] (V8.out) rfl Tryz.underlying44 rfl (by kernel_rfl) ?_)
        | ((with_reducible refine gate_dst (N := 83) rfl ?_); refine wpPartLd 83 rfl rfl 44 (.tmp 82) rfl (w3.heap.size) rfl _ (nodeA qn A3 c3) [.int .i64 qi, .bool false] (G10.out) rfl Tryz.underlying44 rfl (by kernel_rfl) ?_)
        | ((with_reducible refine gate_store (t := 116) (p := 8) (v := .tmp 88) rfl ?_); refine wpRowSt rfl 116 (.tmp 8) (.tmp 88) rfl (g8) #[.int .i64 5, .int .i64 0, .int .i64 0, .string ⟨#[]⟩, .bool false, .int .i64 0, .int .i64 0, .int .i64 0, .bool false, .bool false, .int .i64 0, .int .i64 0, .bool false, .bool false, .string t.f3, .slice (some ⟨w3.heap.size + 1, 0, none⟩) 2 2, .int .i64 qi, .bool false] rfl rfl 116 _ (blk_alloc V8.out _) (by kernel_rfl) rfl rfl ?_))
       rw [show ∀ (a : Act) (v : Value), a.put none v = a from fun _ _ => rfl]
       have hV : ((w3.alloc (.cells Z18 116)).setRow w3.heap.size (rdA qn A3 c3 qi false)).heap.size = w3.heap.size + 1 := (size_setRow _ _ _).trans (by simp)
       have h11 := newBlk ((w3.alloc (.cells Z18 116)).setRow w3.heap.size (rdA qn A3 c3 qi false)) (.cells #[.int .i64 n.f0, .int .i64 n.f1.f0, .int .i64 n.f1.f1, .string n.f1.f2, .bool n.f1.f3, .int .i64 n.f1.f4, .int .i64 n.f2.f0.f0, .int .i64 n.f2.f0.f1, .bool n.f2.f1, .bool n.f2.f2, .int .i64 n.f3.f0.f0, .int .i64 n.f3.f0.f1, .bool n.f3.f1, .bool n.f3.f2, .string n.f4, .slice A2 n.f5.length c2, .int .i64 qn.f0, .int .i64 qn.f1.f0, .int .i64 qn.f1.f1, .string qn.f1.f2, .bool qn.f1.f3, .int .i64 qn.f1.f4, .int .i64 qn.f2.f0.f0, .int .i64 qn.f2.f0.f1, .bool qn.f2.f1, .bool qn.f2.f2, .int .i64 qn.f3.f0.f0, .int .i64 qn.f3.f0.f1, .bool qn.f3.f1, .bool qn.f3.f2, .string qn.f4, .slice A3 qn.f5.length c3] 44)
       rw [hV] at h11
       have H11 := Aside0.mk h11
       clear h11
       go_roundg k1
       case measure => have := HK1.out; omega
       case rel => exact ⟨⟨⟨5, zeroV, zeroC, zeroC, t.f3, [n, qn]⟩, qi, false⟩, some ⟨w3.heap.size + 1, 0, none⟩, 2, HA2, ⟨by have := HK1.out; omega⟩, ⟨setRow_heap _ _ _ _ _ _ (blk_alloc V8.out _)⟩,
        ⟨kids_lit2 n qn (cs := #[.int .i64 n.f0, .int .i64 n.f1.f0, .int .i64 n.f1.f1, .string n.f1.f2, .bool n.f1.f3, .int .i64 n.f1.f4, .int .i64 n.f2.f0.f0, .int .i64 n.f2.f0.f1, .bool n.f2.f1, .bool n.f2.f2, .int .i64 n.f3.f0.f0, .int .i64 n.f3.f0.f1, .bool n.f3.f1, .bool n.f3.f2, .string n.f4, .slice A2 n.f5.length c2, .int .i64 qn.f0, .int .i64 qn.f1.f0, .int .i64 qn.f1.f1, .string qn.f1.f2, .bool qn.f1.f3, .int .i64 qn.f1.f4, .int .i64 qn.f2.f0.f0, .int .i64 qn.f2.f0.f1, .bool qn.f2.f1, .bool qn.f2.f2, .int .i64 qn.f3.f0.f0, .int .i64 qn.f3.f0.f1, .bool qn.f3.f1, .bool qn.f3.f2, .string qn.f4, .slice A3 qn.f5.length c3]) rfl (rowOther _ H11.out (g := g8) (by omega)) ⟨by omega, by omega⟩
         (KidsP.mono (KidsP.row (KidsP.below (KidsP.row (KidsP.below K3.out (bel1 w3 _)) w3.heap.size _ (fun k hk => by have := hk.2; omega)) (bel1 _ _)) g8 _ (fun k hk => hk.1.2)) (fun k hk => hk.1))
         (KidsP.mono (KidsP.row (KidsP.below (KidsP.row (KidsP.below HF3.out (bel1 w3 _)) w3.heap.size _ (fun k hk => by have := hk.2; omega)) (bel1 _ _)) g8 _ (fun k hk => by have := hk.1; omega)) (fun k hk => ⟨by have := hk.1; omega, by have := hk.1; omega⟩))⟩,
        ⟨rowBelow (below_alloc (rowBelow (below_alloc HB3.out _) (by omega) _) _) (by omega) _⟩, ⟨rowOther _ (blk_alloc (rowOther _ (blk_alloc G6.out _) (g := w3.heap.size) (by omega)) _) (g := g8) (by omega)⟩⟩
     ·rw [if_neg kl] at HAo
      obtain rfl := Option.some.inj HAo
      have klb : (ln == line) = false := by simp [kl]
      clear HAo kl
      go_wp2_with (first
       | (go_at_call 84; (with_reducible refine (foolscapref08_Line.calls _ _ _ _ HLn.out).mono ?_); rintro e w1 ⟨rfl, nd, rfl⟩; have G8 := Aside0.mk (blk_drewN H8.out nd); have G6 := Aside0.mk (blk_drewN B6.out nd); have GB := Aside0.mk (pw_below_drewN HB.out nd); have GK := Aside0.mk (KidsP.below HK.out (pw_below_drewN (Below.refl _ _) nd)); have hg8 := fun i => blk_cell G8.out i)
       | ((with_reducible refine gate_dst (N := 89) rfl ?_); refine wpPartLd 89 rfl rfl 116 (.tmp 8) rfl (g8) rfl _ (rdA n A2 c2 i false) [] (G8.out) rfl Tryz.underlying116 rfl (by kernel_rfl) ?_)
       | ((with_reducible refine gate_store (t := 116) (p := 6) (v := .tmp 89) rfl ?_); refine wpRowSt rfl 116 (.tmp 6) (.tmp 89) rfl (w.heap.size) (rdA n A2 c2 i false) rfl rfl 116 _ (G6.out) (by kernel_rfl) rfl rfl ?_))
      refine bodyPost_ret (results_cell_row rfl _ _ (w.heap.size) 116 (rdA n A2 c2 i false) (0, 0) _ rfl (setRow_heap _ _ _ _ _ _ G6.out) Tryz.underlying116 rfl (by kernel_rfl)) rfl ?_
      exact ⟨A2, c2, rfl, KidsP.mono (KidsP.row GK.out _ _ (fun k hk => by have := hk.1; omega)) (fun k hk => by have := hk.1; omega), rowBelow GB.out (Nat.le_refl _) _⟩
    ·rw [if_neg k4] at HAo
     obtain rfl := Option.some.inj HAo
     have k4b : (t.f0 == 4) = false := by simp [k4]
     clear HAo k4
     go_wp2_with (first
      | ((with_reducible refine gate_dst (N := 89) rfl ?_); refine wpPartLd 89 rfl rfl 116 (.tmp 8) rfl (g8) rfl _ (rdA n A2 c2 i false) [] (H8.out) rfl Tryz.underlying116 rfl (by kernel_rfl) ?_)
      | ((with_reducible refine gate_store (t := 116) (p := 6) (v := .tmp 89) rfl ?_); refine wpRowSt rfl 116 (.tmp 6) (.tmp 89) rfl (w.heap.size) (rdA n A2 c2 i false) rfl rfl 116 _ (B6.out) (by kernel_rfl) rfl rfl ?_))
     refine bodyPost_ret (results_cell_row rfl _ _ (w.heap.size) 116 (rdA n A2 c2 i false) (0, 0) _ rfl (setRow_heap _ _ _ _ _ _ B6.out) Tryz.underlying116 rfl (by kernel_rfl)) rfl ?_
     exact ⟨A2, c2, rfl, KidsP.mono (KidsP.row HK.out _ _ (fun k hk => by have := hk.1; omega)) (fun k hk => by have := hk.1; omega), rowBelow HB.out (Nat.le_refl _) _⟩
section
variable {P : Program} {ops : Array Oper} {Q : Exit → Act → World → Prop}
theorem goesV_ {oi : Oper} {N : Option Tmp} {a : Act} {w : World} {K : Act → World → Prop} {f : FuncId} {fn : Func} {xs : Array Operand} {ts : Array TypeId} (hf : P.funcs[f]? = some fn) (hname : (fn.name == "runtime.NumGoroutine") = false) (hb : fn.body.isSome = true) (x : Operand) (caps args0 args : Array Value)
  (hw : Region.wanted oi (yielded ops a.tmps) = true) (hN : oi.dst = N) (hop : oi.op = .call { callee := .value x, args := xs, argTypes := ts }) (hx : a.eval x = .func (.func f) #[] caps) (hargs : xs.map a.eval = args0) (hall : args0 ++ caps = args)
  (h : Calls P f args w fun e w' => ∃ v, e = .returned v ∧ K (a.put N v) w') : if Region.wanted oi (yielded ops a.tmps) = true then Oper.wp P oi a w K Q else K (a.put N undef) w := by
 refine call_ f args hw hN ?_ h
 have he := enters_ hf hname hb args w
 unfold execOp
 simp [hop, resolve, Deferred.ofValue, invoke, hx, hargs, hall, he]
end
def spanLeft.T14 : Bool × List (List Nat × List Nat) := (true, [([], []), ([], []), ([1], [1]), ([], []), ([3], [3]), ([0, 2, 4], [0, 2, 4]), ([], []), ([], []), ([7], [7]), ([], []), ([9], [9]), ([10], [10]), ([6, 8, 11, 5], [6, 8, 11]), ([5, 12], [5, 12]), ([13, 12, 0, 1, 2, 3, 4, 5, 6, 7, 8, 9, 10, 11, 12, 13], [13])])
def spanLeft.B14 : List Nat := [0, 0, 2, 0, 8, 31, 0, 0, 128, 0, 512, 1536, 4095, 8191, 16383]
theorem spanLeft.bits14 : waitsOk spanLeft.T14.2 spanLeft.B14 = true := by kernel_rfl
abbrev rcA (t l o r : Int) : Array Value := #[.int .i64 t, .int .i64 l, .int .i64 o, .int .i64 r]
def moveRect.T7 : Bool × List (List Nat × List Nat) := (true, [([], []), ([0], [0]), ([], []), ([2], [2]), ([0, 1], []), ([4, 1, 0, 1], [1, 4]), ([0, 1, 2, 3, 4, 5], []), ([6, 3, 5, 0, 1, 2, 3, 4, 5], [3, 6])])
def moveRect.B7 : List Nat := [0, 1, 0, 4, 3, 19, 63, 127]
theorem moveRect.bits7 : waitsOk moveRect.T7.2 moveRect.B7 = true := by kernel_rfl
def moveRect.T11 : Bool × List (List Nat × List Nat) := (true, [([], []), ([0], [0]), ([], []), ([2], [2]), ([0, 1], []), ([4, 1, 0, 1], [1, 4]), ([0, 1, 2, 3, 4, 5], []), ([6, 3, 5, 0, 1, 2, 3, 4, 5], [3, 6])])
def moveRect.B11 : List Nat := [0, 1, 0, 4, 3, 19, 63, 127]
theorem moveRect.bits11 : waitsOk moveRect.T11.2 moveRect.B11 = true := by kernel_rfl
structure Rc where
 t : Int
 l : Int
 o : Int
 r : Int
def moving2.T5 : Bool × List (List Nat × List Nat) := (true, [([], []), ([], []), ([], []), ([0, 0], [0]), ([1, 3, 0, 1, 3], [1]), ([2, 4, 0, 1, 2, 3, 4], [2])])
def moving2.B5 : List Nat := [0, 0, 0, 1, 11, 31]
theorem moving2.bits5 : waitsOk moving2.T5.2 moving2.B5 = true := by kernel_rfl
def ofS (a0 a1 b0 b1 : Int) : Rc := if placeB a0 a1 = true ∧ placeB b0 b1 = true then ⟨mn a0 b0, mn a1 b1, mx a0 b0, mx a1 b1⟩ else ⟨0, 0, 0, 0⟩
theorem placeOf_S (a0 a1 b0 b1 : Int) : ∃ e, place_Of.f a0 a1 b0 b1 = some ((ofS a0 a1 b0 b1).t, (ofS a0 a1 b0 b1).l, (ofS a0 a1 b0 b1).o, (ofS a0 a1 b0 b1).r, e) := by
 unfold place_Of.f ofS
 rw [place_is_B, place_is_B]
 cases placeB a0 a1 <;> cases placeB b0 b1 <;> exact ⟨_, rfl⟩
end Go.Proofs.YtopdjokncbpghaaGreatDoor.Pr
end
