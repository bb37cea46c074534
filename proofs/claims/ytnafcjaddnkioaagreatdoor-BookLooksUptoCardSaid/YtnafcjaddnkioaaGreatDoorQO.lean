/- The two Gets: a cell by its place. Condition: a sheet's list is of at most 2^40 cells. -/
import Derived.Test.YtnafcjaddnkioaaGreatDoorQB
import Derived.Test.YtnafcjaddnkioaaGreatDoorQA
import Derived.Laws.Cells
import Derived.TacticsInMore
import Derived.BigFrameIn
import Derived.Test.YtnafcjaddnkioaaGreatDoorQI
import Derived.Test.YtnafcjaddnkioaaGreatDoorQH
import Derived.RangeFuncNested
import Derived.RangeFuncBound
import Derived.RangeFuncCalls
import Derived.RangeFuncLeaves
import Derived.Shelf.Abstract
import Derived.Shelf.RegionOpen
import Derived.WalkKit
import Derived.OwnWalkIn
import Derived.LoopNIn
import Derived.LoopIn
section
set_option linter.unusedVariables false
set_option linter.unusedSimpArgs false
namespace Go.Qe
/-- The first a marks set, b more not. -/
abbrev tf (a b : Nat) : Array Bool := ⟨List.replicate a true ++ List.replicate b false⟩
open Go.RowKit Go.Proofs.YtnafcjaddnkioaaGreatDoorW.PrintWords
theorem blk_cells {w : World} {g : Nat} {l : List Value} {t : TypeId} {fz : Nat × Nat} (h : w.heap[g]? = some (.cells ⟨l⟩ t fz)) (j : Nat) (v : Value) (hj : l[j]? = some v) : w.cell? ((⟨g, 0, none⟩ : Addr).add j) = some v := by
  have : (⟨g, 0, none⟩ : Addr).add j = ⟨g, j, none⟩ := by unfold Addr.add; split <;> simp_all
  rw [this]
  simp [World.cell?, h, hj]
theorem blk_cell0 {w : World} {g : Nat} {l : List Value} {t : TypeId} {fz : Nat × Nat} (h : w.heap[g]? = some (.cells ⟨l⟩ t fz)) (j : Nat) (v : Value) (hj : l[j]? = some v) : w.cell? ⟨g, j, none⟩ = some v := by
  simp [World.cell?, h, hj]
theorem putAt_whole : ∀ (l pre cs : List Value), cs.length = l.length → putAt (pre ++ cs) pre.length l = pre ++ l := by
  intro l
  induction l with
  | nil => intro pre cs h; obtain rfl : cs = [] := List.length_eq_zero_iff.1 h; rfl
  | cons v l ih =>
    intro pre cs h
    cases cs with
    | nil => simp at h
    | cons c cs =>
      have := ih (pre ++ [v]) cs (by simpa using h)
      simp only [putAt]
      rw [List.set_append_right _ _ (Nat.le_refl _), Nat.sub_self]
      simpa using this
section
variable {P : Program} {o : Oper} {a : Act}
theorem run_load_list {W : World} {t : TypeId} {x : Operand} (ho : o.op = .load t x) {ad : Addr} (ha : a.eval x = .pointer (some ad)) (hagg : ∀ w, (isAgg t).run P w = .ok true w) {cs : List Value}
    (hsz : ∀ w, (Go.sizeOf t).run P w = .ok cs.length w) (hc : ∀ j v, cs[j]? = some v → W.cell? (ad.add j) = some v) : (execOp a.eval o).run P W = .ok (.value (.agg ⟨cs⟩)) W := by
  have h1 := run_loadCells_list (P := P) W ad cs hc
  have h2 : (Instr.sureAddr (.pointer (some ad))).run P W = .ok ad W := rfl
  unfold execOp
  simp [ho, ha, Sem.run_bind, Instr.loadAt, loadVar, hagg, hsz, h1, h2, Result.andThen]
theorem run_store_list {W : World} {t : TypeId} {p v : Operand} (ho : o.op = .store t p v) {g : Nat} (hp : a.eval p = .pointer (some ⟨g, 0, none⟩)) {cs vs : List Value} (hv : a.eval v = .agg ⟨vs⟩)
    (hsz : ∀ w, (Go.sizeOf t).run P w = .ok vs.length w) (hb : W.heap[g]? = some (.cells ⟨cs⟩ t (0, 0))) (hl : cs.length = vs.length) (h1 : ∀ u ∈ vs, u.oneCell' = true) :
    (execOp a.eval o).run P W = .ok .skip (W.setCells g 0 vs) ∧ (W.setCells g 0 vs).heap[g]? = some (.cells ⟨vs⟩ t (0, 0)) ∧ (∀ k, k ≠ g → (W.setCells g 0 vs).heap[k]? = W.heap[k]?) := by
  refine ⟨?_, ?_, fun k hk => setCells_other g vs 0 W k hk⟩
  · have h := run_storeCells_cells (P := P) g 0 vs 0 W (fun j hj => by
      have : j < cs.length := by omega
      simp [World.cell?, hb, this]) (fun j hj => by simp [World.frozen?, hb]) h1
    have h2 : (Instr.sureAddr (.pointer (some ⟨g, 0, none⟩))).run P W = .ok ⟨g, 0, none⟩ W := rfl
    simp only [Nat.add_zero] at h
    unfold execOp
    simp [ho, hp, hv, Sem.run_bind, Instr.storeAt, storeVar, hsz, h, h2, Result.andThen, Value.cells]
  · rw [setCells_heap g vs 0 W cs t (0, 0) hb]
    have := putAt_whole vs [] cs hl
    simp at this
    rw [this]
end
section
variable {P : Program} {ops : Array Oper} {rest : List Oper} {o : Oper} {a : Act} {Q : Exit → Act → World → Prop}
theorem wload {W : World} (hgd : o.guard = none) {t : TypeId} {x : Operand} (ho : o.op = .load t x) {ad : Addr} (ha : a.eval x = .pointer (some ad)) (hagg : ∀ w, (isAgg t).run P w = .ok true w) {cs : List Value}
    (hsz : ∀ w, (Go.sizeOf t).run P w = .ok cs.length w) (hc : ∀ j v, cs[j]? = some v → W.cell? (ad.add j) = some v) (h : wpList P ops Q rest (a.put o.dst (.agg ⟨cs⟩)) W) : wpList P ops Q (o :: rest) a W := by
  refine wpList_plain hgd fun K hK => ?_
  unfold Oper.wp
  rw [run_load_list ho ha hagg hsz hc]
  exact hK _ _ h
theorem wstore {W : World} (hgd : o.guard = none) (hN : o.dst = none) {t : TypeId} {p v : Operand} (ho : o.op = .store t p v) {g : Nat} (hp : a.eval p = .pointer (some ⟨g, 0, none⟩)) {cs vs : List Value} (hv : a.eval v = .agg ⟨vs⟩)
    (hsz : ∀ w, (Go.sizeOf t).run P w = .ok vs.length w) (hb : W.heap[g]? = some (.cells ⟨cs⟩ t (0, 0))) (hl : cs.length = vs.length) (h1 : ∀ u ∈ vs, u.oneCell' = true)
    (h : ∀ w1, w1.heap[g]? = some (.cells ⟨vs⟩ t (0, 0)) → (∀ k, k ≠ g → w1.heap[k]? = W.heap[k]?) → (∀ B, B ≤ g → B ≤ W.heap.size → Below B W w1) → wpList P ops Q rest a w1) : wpList P ops Q (o :: rest) a W := by
  obtain ⟨e1, e2, e3⟩ := run_store_list (P := P) ho hp hv hsz hb hl h1
  refine wpList_plain hgd fun K hK => ?_
  unfold Oper.wp
  rw [e1]
  show K (a.put o.dst undef) _
  rw [hN]
  refine hK _ _ (h _ e2 e3 fun B hB hB2 => ?_)
  have : ∀ (l : List Value) (i : Nat) (w : World), B ≤ w.heap.size → Below B w (w.setCells g i l) := by
    intro l
    induction l with
    | nil => intro i w hw; exact Below.refl _ _
    | cons u l ih => intro i w hw; exact ((Below.refl B w).setCell (p := ⟨g, i, none⟩) hB u).trans (ih (i + 1) _ (by simpa [World.setCell] using hw))
  exact this vs 0 W hB2
end
end Go.Qe
end
section
set_option linter.unusedVariables false
set_option linter.unusedSimpArgs false
namespace Go.Proofs.YtnafcjaddnkioaaGreatDoor.PLooks
open Go.Qe Go.RowKit Go.Proofs.YtnafcjaddnkioaaGreatDoorW.PrintWords Go.Proofs.YtnafcjaddnkioaaGreatDoorW.PrintLast Go.Proofs.YtnafcjaddnkioaaGreatDoorW.PrintMore
def getL (l : List S39) (col row : Int) : Option S39 := l.find? fun x => x.f0 == col && x.f1 == row
def getR (l : List S65) (sheet col row : Int) : Option S39 := if 0 ≤ sheet then (l[sheet.toNat]?).bind fun s => getL s.f1 col row else none
def zc (col row : Int) : S39 := ⟨col, row, z37, 0⟩
def zcs (col row : Int) : List Value := [.int .i64 col, .int .i64 row, .bool false, .int .i64 0, .int .i64 0, .int .i64 0, .string (⟨#[]⟩ : ByteArray), .bool false, .int .i64 0, .int .i64 0, .int .i64 0, .int .i64 0, .int .i64 0, .string (⟨#[]⟩ : ByteArray), .bool false, .int .i64 0, .string (⟨#[]⟩ : ByteArray), .int .i64 0, .int .i64 0, .bool false, .bool false, .string (⟨#[]⟩ : ByteArray), .int .i64 0, .int .i64 0, .bool false, .bool false, .string (⟨#[]⟩ : ByteArray), .int .i64 0, .slice none 0 0, .int .i64 0]
theorem zcs_reads (w : World) (col row : Int) : k39.K w (zc col row) (zcs col row) := k39_mk w (zc col row) (A28 := none) (c28 := 0) (Nat.le_refl _) (Kd.C_nil k35 w)
/-- What both Gets hand back. -/
def GetPost (w : World) (l : List S65) (sheet col row : Int) (e : Ending) (w' : World) : Prop :=
  ∃ cs : List Value, e = .returned (.tuple #[.agg ⟨cs⟩, .bool (getR l sheet col row).isSome]) ∧ k39.K w ((getR l sheet col row).getD (zc col row)) cs ∧ Below w.heap.size w w'
theorem zcs_one (col row : Int) : ∀ u ∈ zcs col row, u.oneCell' = true := by simp [zcs, Value.oneCell']
theorem results27 {P : Program} {W : World} {tmps : Array Value} {g : Nat} {cs : List Value} {b : Bool} (h8 : tmps.getD 8 undef = .pointer (some ⟨g, 0, none⟩)) (h9 : tmps.getD 9 undef = .bool b)
    (hagg : ∀ w, (isAgg 39).run P w = .ok true w) (hsz : ∀ w, (Go.sizeOf 39).run P w = .ok cs.length w) (hb : W.heap[g]? = some (.cells ⟨cs⟩ 39 (0, 0))) : (results Tryz.f27 tmps).run P W = .ok (.tuple #[.agg ⟨cs⟩, .bool b]) W := by
  have h1 := run_loadCells_list (P := P) W ⟨g, 0, none⟩ cs (blk_cells hb)
  have h2 : (asAddr (.pointer (some ⟨g, 0, none⟩))).run P W = .ok ⟨g, 0, none⟩ W := rfl
  have h8' : tmps[8]?.getD undef = .pointer (some ⟨g, 0, none⟩) := by simpa [Array.getD_eq_getD_getElem?] using h8
  have h9' : tmps[9]?.getD undef = .bool b := by simpa [Array.getD_eq_getD_getElem?] using h9
  simp [results, Tryz.f27, h8', h9', Sem.run_bind, loadVar, hagg, hsz, h1, h2, Result.andThen]
set_option maxHeartbeats 4000000 in
set_option maxRecDepth 100000 in
theorem refGet_out (A0 : Option Addr) (c0 : Nat) (l0 : List S65) (A1 : Option Addr) (n1 c1 : Nat) (A2 : Option Addr) (n2 c2 : Nat) (sheet col row : Int) (w : World) (hout : ¬ (0 ≤ sheet ∧ sheet < l0.length)) :
    Calls Tryz.prog 27 #[.agg #[.slice A0 l0.length c0, .slice A1 n1 c1, .slice A2 n2 c2], .int .i64 sheet, .int .i64 col, .int .i64 row] w (GetPost w l0 sheet col row) := by
  have hu26 := Tryz.underlying26
  have hu39 := Tryz.underlying39
  have HG := Aside0.mk (show getR l0 sheet col row = none by
    unfold getR
    split
    · rename_i h0
      rw [List.getElem?_eq_none (by omega)]; rfl
    · rfl)
  have HB := Aside0.mk (Below.refl w.heap.size w)
  by_cases s0 : 0 ≤ sheet
  · have s0b : decide (0 ≤ sheet) = true := decide_eq_true s0
    have s1b : decide (sheet < (l0.length : Int)) = false := decide_eq_false (by omega)
    clear hout
    go_enter Tryz.func27, Tryz.ntmps27
    go_wp2_with (first | ((with_reducible refine gate_dst (N := 4) rfl ?_); refine box_event ?hg (N := 4) ?hd (cs := #[.slice A0 l0.length c0, .slice A1 n1 c1, .slice A2 n2 c2]) (t := 26) ?hr ?_; (case hd => rfl); (case hg => rfl); (case hr => first | (go_simp; done) | (go_simp; rfl)); intro gb hg wgb BX_gb hb; have nB := Aside0.mk (below_step HB.out hb); have GEgb := Aside0.mk ((by rw [hg]; exact below_size HB.out) : w.heap.size ≤ gb); clear HB; have HB := nB; clear nB; have BKgb := Aside0.mk BX_gb; clear BX_gb hb hg; have hcz0 := blk_cell0 BKgb.out 0 _ rfl) | ((with_reducible refine gate_dst (N := 8) rfl ?_); refine box_event ?hg (N := 8) ?hd (cs := #[.int .i64 0, .int .i64 0, .bool false, .int .i64 0, .int .i64 0, .int .i64 0, .string (⟨#[]⟩ : ByteArray), .bool false, .int .i64 0, .int .i64 0, .int .i64 0, .int .i64 0, .int .i64 0, .string (⟨#[]⟩ : ByteArray), .bool false, .int .i64 0, .string (⟨#[]⟩ : ByteArray), .int .i64 0, .int .i64 0, .bool false, .bool false, .string (⟨#[]⟩ : ByteArray), .int .i64 0, .int .i64 0, .bool false, .bool false, .string (⟨#[]⟩ : ByteArray), .int .i64 0, .slice none 0 0, .int .i64 0]) (t := 39) ?hr ?_; (case hd => rfl); (case hg => rfl); (case hr => first | (go_simp; done) | (go_simp; rfl)); intro gr hg wgr BX_gr hb; have nB := Aside0.mk (below_step HB.out hb); have nBKgb := Aside0.mk (blk_below BKgb.out hb); have GEgr := Aside0.mk ((by rw [hg]; exact below_size HB.out) : w.heap.size ≤ gr); have NEgbgr := Aside0.mk ((by rw [hg]; exact Nat.ne_of_lt (blk_lt BKgb.out)) : gb ≠ gr); clear HB; have HB := nB; clear nB; clear BKgb; have BKgb := nBKgb; clear nBKgb; have BKgr := Aside0.mk BX_gr; clear BX_gr hb hg; clear hcz0; have hcz0 := blk_cell0 BKgb.out 0 _ rfl) | ((with_reducible refine gate_store (t := 39) rfl ?_); refine wstore rfl rfl rfl (by first | rfl | (go_simp; done) | (go_simp; rfl)) (vs := zcs col row) (by first | rfl | (go_simp; rfl)) Tryz.sizeOf39 BKgr.out rfl (zcs_one _ _) ?_; intro ws Bs Ho Hb; have nB := Aside0.mk (HB.out.trans (Hb _ GEgr.out (below_size HB.out))); clear HB; have HB := nB; clear nB; clear BKgr; have BKgr := Aside0.mk Bs; clear Bs Ho Hb))
    refine bodyPost_ret (results27 (g := gr) (cs := zcs col row) (b := false) rfl rfl Tryz.isAgg39 Tryz.sizeOf39 BKgr.out) rfl ?_
    unfold GetPost
    rw [HG.out]
    exact ⟨_, rfl, zcs_reads _ _ _, HB.out⟩
  · have s0b : decide (0 ≤ sheet) = false := decide_eq_false s0
    clear hout
    go_enter Tryz.func27, Tryz.ntmps27
    go_wp2_with (first | ((with_reducible refine gate_dst (N := 4) rfl ?_); refine box_event ?hg (N := 4) ?hd (cs := #[.slice A0 l0.length c0, .slice A1 n1 c1, .slice A2 n2 c2]) (t := 26) ?hr ?_; (case hd => rfl); (case hg => rfl); (case hr => first | (go_simp; done) | (go_simp; rfl)); intro gb hg wgb BX_gb hb; have nB := Aside0.mk (below_step HB.out hb); have GEgb := Aside0.mk ((by rw [hg]; exact below_size HB.out) : w.heap.size ≤ gb); clear HB; have HB := nB; clear nB; have BKgb := Aside0.mk BX_gb; clear BX_gb hb hg; have hcz0 := blk_cell0 BKgb.out 0 _ rfl) | ((with_reducible refine gate_dst (N := 8) rfl ?_); refine box_event ?hg (N := 8) ?hd (cs := #[.int .i64 0, .int .i64 0, .bool false, .int .i64 0, .int .i64 0, .int .i64 0, .string (⟨#[]⟩ : ByteArray), .bool false, .int .i64 0, .int .i64 0, .int .i64 0, .int .i64 0, .int .i64 0, .string (⟨#[]⟩ : ByteArray), .bool false, .int .i64 0, .string (⟨#[]⟩ : ByteArray), .int .i64 0, .int .i64 0, .bool false, .bool false, .string (⟨#[]⟩ : ByteArray), .int .i64 0, .int .i64 0, .bool false, .bool false, .string (⟨#[]⟩ : ByteArray), .int .i64 0, .slice none 0 0, .int .i64 0]) (t := 39) ?hr ?_; (case hd => rfl); (case hg => rfl); (case hr => first | (go_simp; done) | (go_simp; rfl)); intro gr hg wgr BX_gr hb; have nB := Aside0.mk (below_step HB.out hb); have nBKgb := Aside0.mk (blk_below BKgb.out hb); have GEgr := Aside0.mk ((by rw [hg]; exact below_size HB.out) : w.heap.size ≤ gr); have NEgbgr := Aside0.mk ((by rw [hg]; exact Nat.ne_of_lt (blk_lt BKgb.out)) : gb ≠ gr); clear HB; have HB := nB; clear nB; clear BKgb; have BKgb := nBKgb; clear nBKgb; have BKgr := Aside0.mk BX_gr; clear BX_gr hb hg; clear hcz0; have hcz0 := blk_cell0 BKgb.out 0 _ rfl) | ((with_reducible refine gate_store (t := 39) rfl ?_); refine wstore rfl rfl rfl (by first | rfl | (go_simp; done) | (go_simp; rfl)) (vs := zcs col row) (by first | rfl | (go_simp; rfl)) Tryz.sizeOf39 BKgr.out rfl (zcs_one _ _) ?_; intro ws Bs Ho Hb; have nB := Aside0.mk (HB.out.trans (Hb _ GEgr.out (below_size HB.out))); clear HB; have HB := nB; clear nB; clear BKgr; have BKgr := Aside0.mk Bs; clear Bs Ho Hb))
    refine bodyPost_ret (results27 (g := gr) (cs := zcs col row) (b := false) rfl rfl Tryz.isAgg39 Tryz.sizeOf39 BKgr.out) rfl ?_
    unfold GetPost
    rw [HG.out]
    exact ⟨_, rfl, zcs_reads _ _ _, HB.out⟩
theorem addr_add_add (a : Addr) (i j : Nat) : (a.add i).add j = a.add (i + j) := by
  unfold Addr.add
  by_cases hi : i = 0 <;> by_cases hj : j = 0 <;> simp [hi, hj, Nat.add_assoc]
theorem getL_none {l : List S39} {col row : Int} (h : ∀ j, j < l.length → ¬ ((rd_T39 l (j : Int)).f0 = col ∧ (rd_T39 l (j : Int)).f1 = row)) : getL l col row = none := by
  unfold getL
  rw [List.find?_eq_none]
  intro x hx
  obtain ⟨j, hj, rfl⟩ := List.getElem_of_mem hx
  have := h j hj
  simp only [rd_T39, Int.toNat_natCast, List.getD_eq_getElem?_getD, List.getElem?_eq_getElem hj, Option.getD_some] at this
  simpa using this
theorem getL_some {l : List S39} {col row : Int} {k : Nat} (hk : k < l.length) (h : ∀ j, j < k → ¬ ((rd_T39 l (j : Int)).f0 = col ∧ (rd_T39 l (j : Int)).f1 = row)) (hm : (rd_T39 l (k : Int)).f0 = col ∧ (rd_T39 l (k : Int)).f1 = row) :
    getL l col row = some (rd_T39 l (k : Int)) := by
  unfold getL
  have e : rd_T39 l (k : Int) = l[k] := by simp [rd_T39, List.getElem?_eq_getElem hk]
  rw [List.find?_eq_some_iff_getElem]
  rw [e] at hm
  refine ⟨by simp [e, hm], k, hk, e.symm, fun j hj => ?_⟩
  rw [Bool.not_eq_true', Bool.and_eq_false_iff]
  have := h j hj
  simp only [rd_T39, Int.toNat_natCast, List.getD_eq_getElem?_getD, List.getElem?_eq_getElem (show j < l.length by omega), Option.getD_some] at this
  by_cases h1 : l[j].f0 = col
  · exact .inr (beq_eq_false_iff_ne.2 fun h2 => this ⟨h1, h2⟩)
  · exact .inl (beq_eq_false_iff_ne.2 h1)
theorem getR_at {l0 : List S65} {sheet col row : Int} (h0 : 0 ≤ sheet) (h1 : sheet < l0.length) : getR l0 sheet col row = getL (rd_T65 l0 sheet).f1 col row := by
  unfold getR
  rw [if_pos h0, List.getElem?_eq_getElem (by omega)]
  simp [rd_T65, List.getElem?_eq_getElem (show sheet.toNat < l0.length by omega)]
set_option maxHeartbeats 4000000 in
set_option maxRecDepth 100000 in
theorem refGet_in (A0 : Option Addr) (c0 : Nat) (l0 : List S65) (A1 : Option Addr) (n1 c1 : Nat) (A2 : Option Addr) (n2 c2 : Nat) (sheet col row : Int) (w : World) (hr0 : Kd.C k65 w A0 l0.length l0) (h0 : 0 ≤ sheet) (h1 : sheet < l0.length) (hmax : (rd_T65 l0 sheet).f1.length ≤ 1099511627776) :
    Calls Tryz.prog 27 #[.agg #[.slice A0 l0.length c0, .slice A1 n1 c1, .slice A2 n2 c2], .int .i64 sheet, .int .i64 col, .int .i64 row] w (GetPost w l0 sheet col row) := by
  have hu26 := Tryz.underlying26
  have hu39 := Tryz.underlying39
  have HG := Aside0.mk (getR_at (col := col) (row := row) h0 h1)
  have HB := Aside0.mk (Below.refl w.heap.size w)
  have s0b : decide (0 ≤ sheet) = true := decide_eq_true h0
  have s1b : decide (sheet < (l0.length : Int)) = true := decide_eq_true h1
  obtain ⟨ad, A, c, e, hx0, hx1, hl, hC⟩ := at_T65 hr0 sheet h0 h1
  cases e
  have HC := Aside0.mk hC
  have HX1 := Aside0.mk hx1
  clear hC hx0 hx1 hr0
  generalize hls : (rd_T65 l0 sheet).f1 = ls at *
  have HLS := Aside0.mk hls
  clear hls
  have h0t := eq_true h0
  have h1t := eq_true h1
  go_enter Tryz.func27, Tryz.ntmps27
  go_wp2_with (first | ((with_reducible refine gate_dst (N := 4) rfl ?_); refine box_event ?hg (N := 4) ?hd (cs := #[.slice (some ad) l0.length c0, .slice A1 n1 c1, .slice A2 n2 c2]) (t := 26) ?hr ?_; (case hd => rfl); (case hg => rfl); (case hr => first | (go_simp; done) | (go_simp; rfl)); intro gb hg wgb BX_gb hb; have nB := Aside0.mk (below_step HB.out hb); have GEgb := Aside0.mk ((by rw [hg]; exact below_size HB.out) : w.heap.size ≤ gb); clear HB; have HB := nB; clear nB; have BKgb := Aside0.mk BX_gb; clear BX_gb hb hg; have hcz0 := blk_cell0 BKgb.out 0 _ rfl) | ((with_reducible refine gate_dst (N := 8) rfl ?_); refine box_event ?hg (N := 8) ?hd (cs := #[.int .i64 0, .int .i64 0, .bool false, .int .i64 0, .int .i64 0, .int .i64 0, .string (⟨#[]⟩ : ByteArray), .bool false, .int .i64 0, .int .i64 0, .int .i64 0, .int .i64 0, .int .i64 0, .string (⟨#[]⟩ : ByteArray), .bool false, .int .i64 0, .string (⟨#[]⟩ : ByteArray), .int .i64 0, .int .i64 0, .bool false, .bool false, .string (⟨#[]⟩ : ByteArray), .int .i64 0, .int .i64 0, .bool false, .bool false, .string (⟨#[]⟩ : ByteArray), .int .i64 0, .slice none 0 0, .int .i64 0]) (t := 39) ?hr ?_; (case hd => rfl); (case hg => rfl); (case hr => first | (go_simp; done) | (go_simp; rfl)); intro gr hg wgr BX_gr hb; have nB := Aside0.mk (below_step HB.out hb); have nBKgb := Aside0.mk (blk_below BKgb.out hb); have GEgr := Aside0.mk ((by rw [hg]; exact below_size HB.out) : w.heap.size ≤ gr); have NEgbgr := Aside0.mk ((by rw [hg]; exact Nat.ne_of_lt (blk_lt BKgb.out)) : gb ≠ gr); clear HB; have HB := nB; clear nB; clear BKgb; have BKgb := nBKgb; clear nBKgb; have BKgr := Aside0.mk BX_gr; clear BX_gr hb hg; clear hcz0; have hcz0 := blk_cell0 BKgb.out 0 _ rfl; have hx1 := (HB.out.cell (World.block_lt_of_cell? w _ HX1.out)).trans HX1.out))
  go_loop [11] (fun i => ∃ k : Nat, k ≤ ls.length ∧ i = .int .i64 k ∧ Aside0 (∀ j, j < k → ¬ ((rd_T39 ls (j : Int)).f0 = col ∧ (rd_T39 ls (j : Int)).f1 = row))) (fun i => ls.length - (intOf i).toNat)
  case atStart => exact ⟨0, Nat.zero_le _, rfl, ⟨fun j hj => absurd hj (Nat.not_lt_zero _)⟩⟩
  case round =>
    obtain ⟨k, hk, rfl, HK⟩ := hrel
    by_cases hlt : k < ls.length
    · obtain ⟨ad2, A2_, c2_, e2, hy0, hy1, hyr⟩ := at_T39 HC.out (k : Int) (by omega) (by omega)
      cases e2
      have HR := Aside0.mk (Kd.C_get HC.out z39 (k : Int) (by omega) (by omega))
      clear hyr
      replace hy0 := (HB.out.cell (World.block_lt_of_cell? w _ hy0)).trans hy0
      replace hy1 := (HB.out.cell (World.block_lt_of_cell? w _ hy1)).trans hy1
      simp only [Int.toNat_natCast] at hy0 hy1
      have hk0 : (0 : Int) ≤ (k : Int) := by omega
      have hkl : (k : Int) < (ls.length : Int) := by omega
      have hk0t := eq_true hk0
      have hklt := eq_true hkl
      have hwr : wrap64 ((k : Int) + 1) = ((k + 1 : Nat) : Int) := by unfold wrap64; omega
      by_cases q0 : (rd_T39 ls (k : Int)).f0 = col
      · have q0b : ((rd_T39 ls (k : Int)).f0 == col) = true := beq_iff_eq.2 q0
        by_cases q1 : (rd_T39 ls (k : Int)).f1 = row
        · have q1b : ((rd_T39 ls (k : Int)).f1 == row) = true := beq_iff_eq.2 q1
          have HF := Aside0.mk (getL_some hlt HK.out ⟨q0, q1⟩)
          obtain ⟨adx, cs, e3, hcl, hcK, hcc⟩ := HR.out
          cases e3
          have HCK := Aside0.mk hcK
          have HSZ : Aside0 (∀ w, (Go.sizeOf 39).run Tryz.prog w = .ok cs.length w) := ⟨by rw [hcl]; exact Tryz.sizeOf39⟩
          have HLN := Aside0.mk hcl
          simp only [Int.toNat_natCast] at hcc
          have HCC : Aside0 (∀ j v, cs[j]? = some v → wgr.cell? ((ad2.add (k * 30)).add j) = some v) := ⟨fun j v hj => by
            have := hcc j v hj
            change w.cell? (ad2.add (k * 30 + j)) = some v at this
            rw [addr_add_add]
            exact (HB.out.cell (World.block_lt_of_cell? w _ this)).trans this⟩
          clear q0 q1 hcK hcl hcc
          go_wp2_with (first | ((with_reducible refine gate_load (t := 39) rfl ?_); refine wload rfl rfl (by first | rfl | (go_simp; done) | (go_simp; rfl)) Tryz.isAgg39 (cs := cs) HSZ.out HCC.out ?_) | ((with_reducible refine gate_store (t := 39) rfl ?_); refine wstore rfl rfl rfl (by first | rfl | (go_simp; done) | (go_simp; rfl)) (vs := cs) (by first | rfl | (go_simp; rfl)) HSZ.out BKgr.out HLN.out.symm (k39.K_one HCK.out) ?_; intro ws Bs Ho Hb; have nB := Aside0.mk (HB.out.trans (Hb _ GEgr.out (below_size HB.out))); clear HB; have HB := nB; clear nB; clear BKgr; have BKgr := Aside0.mk Bs; clear Bs Ho Hb))
          refine bodyPost_ret (results27 (g := gr) (cs := cs) (b := true) rfl rfl Tryz.isAgg39 HSZ.out BKgr.out) rfl ?_
          unfold GetPost
          rw [HG.out, HF.out]
          exact ⟨_, rfl, HCK.out, HB.out⟩
        · have q1b : ((rd_T39 ls (k : Int)).f1 == row) = false := beq_eq_false_iff_ne.2 q1
          have HK2 : Aside0 (∀ j, j < k + 1 → ¬ ((rd_T39 ls (j : Int)).f0 = col ∧ (rd_T39 ls (j : Int)).f1 = row)) := ⟨fun j hj => by
            rcases Nat.lt_succ_iff_lt_or_eq.1 hj with h | rfl
            · exact HK.out j h
            · exact fun h => q1 h.2⟩
          clear q0 q1
          go_wp2
          go_round
          case rel => exact ⟨k + 1, by omega, by first | rfl | (simp; done) | (simp [*]; done), HK2⟩
          case measure => simp [intOf]; omega
      · have q0b : ((rd_T39 ls (k : Int)).f0 == col) = false := beq_eq_false_iff_ne.2 q0
        have HK2 : Aside0 (∀ j, j < k + 1 → ¬ ((rd_T39 ls (j : Int)).f0 = col ∧ (rd_T39 ls (j : Int)).f1 = row)) := ⟨fun j hj => by
          rcases Nat.lt_succ_iff_lt_or_eq.1 hj with h | rfl
          · exact HK.out j h
          · exact fun h => q0 h.1⟩
        clear q0
        go_wp2
        go_round
        case rel => exact ⟨k + 1, by omega, by first | rfl | (simp; done) | (simp [*]; done), HK2⟩
        case measure => simp [intOf]; omega
    · obtain rfl : k = ls.length := by omega
      have HF := Aside0.mk (getL_none HK.out)
      go_wp2_with ((with_reducible refine gate_store (t := 39) rfl ?_); refine wstore rfl rfl rfl (by first | rfl | (go_simp; done) | (go_simp; rfl)) (vs := zcs col row) (by first | rfl | (go_simp; rfl)) Tryz.sizeOf39 BKgr.out rfl (zcs_one _ _) ?_; intro ws Bs Ho Hb; have nB := Aside0.mk (HB.out.trans (Hb _ GEgr.out (below_size HB.out))); clear HB; have HB := nB; clear nB; clear BKgr; have BKgr := Aside0.mk Bs; clear Bs Ho Hb)
      refine bodyPost_ret (results27 (g := gr) (cs := zcs col row) (b := false) rfl rfl Tryz.isAgg39 Tryz.sizeOf39 BKgr.out) rfl ?_
      unfold GetPost
      rw [HG.out, HF.out]
      exact ⟨_, rfl, zcs_reads _ _ _, HB.out⟩
end Go.Proofs.YtnafcjaddnkioaaGreatDoor.PLooks
end
section
set_option linter.unusedVariables false
set_option linter.unusedSimpArgs false
namespace Go.Qe
open Go.RowKit Go.Proofs.YtnafcjaddnkioaaGreatDoorW.PrintWords
section
variable {F : Fence} {n : Nat} {P : Program} {ops : Array Oper} {rest : List Oper} {o : Oper} {a : Act} {Q : Exit → Act → World → Prop}
theorem gateIn_load {W : World} {t : TypeId} {x : Operand} (_ho : o.op = .load t x) (h : wpListIn F n P ops Q (o :: rest) a W) : wpListIn F n P ops Q (o :: rest) a W := h
theorem gateIn_store {W : World} {t : TypeId} {x v : Operand} (_ho : o.op = .store t x v) (h : wpListIn F n P ops Q (o :: rest) a W) : wpListIn F n P ops Q (o :: rest) a W := h
theorem gateIn_dst {W : World} {N : Tmp} (_hN : o.dst = some N) (h : wpListIn F n P ops Q (o :: rest) a W) : wpListIn F n P ops Q (o :: rest) a W := h
theorem wloadIn {W : World} (hgd : o.guard = none) {t : TypeId} {x : Operand} (ho : o.op = .load t x) {ad : Addr} (ha : a.eval x = .pointer (some ad)) (hagg : ∀ w, (isAgg t).run P w = .ok true w) {cs : List Value}
    (hsz : ∀ w, (Go.sizeOf t).run P w = .ok cs.length w) (hc : ∀ j v, cs[j]? = some v → W.cell? (ad.add j) = some v) (h : wpListIn F n P ops Q rest (a.put o.dst (.agg ⟨cs⟩)) W) : wpListIn F n P ops Q (o :: rest) a W := by
  refine wpListIn_plain hgd fun K hK => ?_
  unfold Oper.wpIn
  refine ⟨?_, ?_⟩
  · simp [Oper.about, ho]
  · rw [Oper.semAt_plain F _ _ (by rw [ho]; intro c hc'; cases hc'), run_load_list ho ha hagg hsz hc]
    exact hK _ _ h
theorem wstoreIn {W : World} (hgd : o.guard = none) (hN : o.dst = none) {t : TypeId} {p v : Operand} (ho : o.op = .store t p v) {g : Nat} (hp : a.eval p = .pointer (some ⟨g, 0, none⟩)) {cs vs : List Value} (hv : a.eval v = .agg ⟨vs⟩)
    (hsz : ∀ w, (Go.sizeOf t).run P w = .ok vs.length w) (hb : W.heap[g]? = some (.cells ⟨cs⟩ t (0, 0))) (hl : cs.length = vs.length) (h1 : ∀ u ∈ vs, u.oneCell' = true)
    (h : ∀ w1, w1.heap[g]? = some (.cells ⟨vs⟩ t (0, 0)) → (∀ k, k ≠ g → w1.heap[k]? = W.heap[k]?) → (∀ B, B ≤ g → B ≤ W.heap.size → Below B W w1) → KeepsOthers W w1 → wpListIn F n P ops Q rest a w1) : wpListIn F n P ops Q (o :: rest) a W := by
  obtain ⟨e1, e2, e3⟩ := run_store_list (P := P) ho hp hv hsz hb hl h1
  have hb2 : ∀ B, B ≤ g → ∀ (l : List Value) (i : Nat) (w : World), B ≤ w.heap.size → Below B w (w.setCells g i l) := by
    intro B hB l
    induction l with
    | nil => intro i w hw; exact Below.refl _ _
    | cons u l ih => intro i w hw; exact ((Below.refl B w).setCell (p := ⟨g, i, none⟩) hB u).trans (ih (i + 1) _ (by simpa [World.setCell] using hw))
  have hk2 : ∀ (l : List Value) (i : Nat) (w : World), KeepsOthers w (w.setCells g i l) := by
    intro l
    induction l with
    | nil => intro i w; exact KeepsOthers.refl _
    | cons u l ih => intro i w; exact (KeepsOthers.setCell w ⟨g, i, none⟩ u).trans (ih (i + 1) _)
  refine wpListIn_plain hgd fun K hK => ?_
  unfold Oper.wpIn
  refine ⟨?_, ?_⟩
  · simp [Oper.about, ho]
  · rw [Oper.semAt_plain F _ _ (by rw [ho]; intro c hc'; cases hc'), e1]
    show K (a.put o.dst undef) _
    rw [hN]
    exact hK _ _ (h _ e2 e3 (fun B hB hB2 => hb2 B hB vs 0 W hB2) (hk2 vs 0 W))
theorem wboxIn {W : World} (hgd : o.guard = none) {N : Tmp} (_hd : o.dst = some N) (hab : ∀ w, o.about P w a.eval = none) (hdf : ∀ c, o.op ≠ .defer c) {cs : Array Value} {t : TypeId}
    (hrun : (execOp a.eval o).run P W = .ok (.value (.pointer (some ⟨W.heap.size, 0, none⟩))) (W.alloc (.cells cs t (0, 0))))
    (h : ∀ g, g = W.heap.size → ∀ w1, w1.heap[g]? = some (.cells cs t (0, 0)) → Below W.heap.size W w1 → KeepsOthers W w1 → wpListIn F n P ops Q rest (a.put o.dst (.pointer (some ⟨g, 0, none⟩))) w1) : wpListIn F n P ops Q (o :: rest) a W := by
  refine wpListIn_plain hgd fun K hK => ?_
  unfold Oper.wpIn
  refine ⟨?_, ?_⟩
  · intro f hf; rw [hab] at hf; cases hf
  · rw [Oper.semAt_plain F _ _ hdf, hrun]
    exact hK _ _ (h _ rfl _ (blk_new W _) (below_alloc (Below.refl _ _) _) (KeepsOthers.alloc _ _))
end
end Go.Qe
end
section
set_option linter.unusedVariables false
set_option linter.unusedSimpArgs false
namespace Go.Proofs.YtnafcjaddnkioaaGreatDoor.PLooks
open Go.Qe Go.RowKit Go.Shelf Go.Proofs.YtnafcjaddnkioaaGreatDoorW.PrintWords Go.Proofs.YtnafcjaddnkioaaGreatDoorW.PrintLast Go.Proofs.YtnafcjaddnkioaaGreatDoorW.PrintMore
attribute [local go_sem] Oper.semAt_some
/-- What the iterator hands over: a sheet's number, a cell, and how it reads. -/
abbrev It (w0 : World) := { p : Int × S39 × List Value // k39.K w0 p.2.1 p.2.2 }
def It.key {w0 : World} (x : It w0) : Int × S39 := (x.1.1, x.1.2.1)
def It.encs {w0 : World} (x : It w0) : Array Value := #[.int .i64 x.1.1, .agg ⟨x.1.2.2⟩]
def pairs (i : Nat) : List S65 → List (Int × S39)
  | [] => []
  | s :: l => (s.f1.map fun x => ((i : Int), x)) ++ pairs (i + 1) l
theorem pairs_append (l m : List S65) : ∀ i, pairs i (l ++ m) = pairs i l ++ pairs (i + l.length) m := by
  induction l with
  | nil => intro i; simp [pairs]
  | cons s l ih => intro i; simp [pairs, ih, Nat.add_assoc, Nat.add_comm 1]
theorem pairs_succ {l : List S65} {i : Nat} (h : i < l.length) : pairs 0 (l.take (i + 1)) = pairs 0 (l.take i) ++ (l[i].f1.map fun x => ((i : Int), x)) := by
  rw [List.take_succ_eq_append_getElem h, pairs_append]
  simp [pairs, Nat.min_eq_left (Nat.le_of_lt h)]
theorem pairs_prefix (l : List S65) (i : Nat) : pairs 0 (l.take i) <+: pairs 0 l := by
  conv => rhs; rw [← List.take_append_drop i l, pairs_append]
  exact List.prefix_append _ _
theorem map_take_succ {l : List S39} {k : Nat} (f : S39 → Int × S39) (h : k < l.length) : (l.take (k + 1)).map f = (l.take k).map f ++ [f l[k]] := by
  rw [List.take_succ_eq_append_getElem h, List.map_append]; rfl
theorem grown_of_below {w w' : World} (h : Below w.heap.size w w') : w.grownBy w' none := ⟨h.os, h.tape, h.output, h.size, fun k hk _ => h.block k hk⟩
set_option maxHeartbeats 4000000 in
set_option maxRecDepth 100000 in
theorem all1_in (F : Fence) (n : Nat) (hF : F.fn 141) (hro : F.round = none) (hn : 1 ≤ n) (l Bs : Nat) (w0 : World) (A0 : Option Addr) (c0 : Nat) (l0 : List S65) (v1 v2 : Value) (hC : Kd.C k65 w0 A0 l0.length l0) (hmax : ∀ s ∈ l0, s.f1.length ≤ 1099511627776) (hl0 : l0.length ≤ 1099511627776)
    (J Jx : List (It w0) → World → Prop) (W : World) (hJ : AbidesFrom W.heap.size J)
    (hY : ∀ pre x W1, J pre W1 → pre.length < (pairs 0 l0).length → YieldAt F (n - 1) Tryz.prog l x.encs W1 fun e W' =>
      (e = .returned (.bool true) ∧ J (pre ++ [x]) W' ∧ Below w0.heap.size W1 W') ∨ (e = .returned (.bool false) ∧ Jx (pre ++ [x]) W'))
    (hBs : W.heap[Bs]? = some (.cells #[.slice A0 l0.length c0, v1, v2] 26 (0, 0))) (hW0 : Below w0.heap.size w0 W) (h0 : J [] W) :
    CallsIn F n Tryz.prog 141 #[.func (.yield l) #[] #[], .pointer (some ⟨Bs, 0, none⟩)] W fun e W' => (∃ v, e = .returned v) ∧
      ((∃ xs, xs.map It.key = pairs 0 l0 ∧ J xs W') ∨ (∃ pre, pre.map It.key <+: pairs 0 l0 ∧ Jx pre W')) := by
  have hu26 := Tryz.underlying26
  have hu65 := Tryz.underlying65
  have hu39 := Tryz.underlying39
  have HY := Aside0.mk hY
  have HJ := Aside0.mk hJ
  have HC := Aside0.mk hC
  have HM := Aside0.mk hmax
  clear hY hJ hC hmax
  have hcz0 := blk_cell0 hBs 0 _ rfl
  have HBS := Aside0.mk hBs
  clear hBs
  refine callsIn_of_wp Tryz.func141 rfl hF ?_ hro
  simp only [Tryz.ntmps141, List.size_toArray, List.length_cons, List.length_nil, Nat.reduceAdd, Nat.reduceSub, Array.replicate_succ, Array.replicate_zero, List.push_toArray, List.append_toArray, List.nil_append, List.cons_append]
  gi_wp2
  clear hcz0
  gi_loopw [10] (fun i wr => ∃ (k : Nat) (pre : List (It w0)), k ≤ l0.length ∧ i = .int .i64 k ∧ Aside0 (pre.map It.key = pairs 0 (l0.take k)) ∧ Aside0 (J pre wr) ∧ Aside0 (Below w0.heap.size w0 wr) ∧ Aside0 (W.heap.size ≤ wr.heap.size)) (fun i _ => l0.length - (intOf i).toNat)
  case atStart => exact ⟨0, [], Nat.zero_le _, rfl, ⟨by simp [pairs]⟩, ⟨h0⟩, ⟨hW0⟩, ⟨Nat.le_refl _⟩⟩
  case round =>
    obtain ⟨k, pre, hk, rfl, HP, HJS, HB, HSZ⟩ := hrel
    by_cases hlt : k < l0.length
    · obtain ⟨ad, A1, c1, e, hx0, hx1, hl, hC1⟩ := at_T65 HC.out (k : Int) (by omega) (by omega)
      cases e
      have hget : rd_T65 l0 (k : Int) = l0[k] := by simp [rd_T65, List.getElem?_eq_getElem hlt]
      have HG := Aside0.mk hget
      have HM1 := HM.out l0[k] (List.getElem_mem hlt)
      rw [← hget] at HM1
      clear hget
      have HC1 := Aside0.mk hC1
      clear hC1
      replace hx0 := (HB.out.cell (World.block_lt_of_cell? w0 _ hx0)).trans hx0
      replace hx1 := (HB.out.cell (World.block_lt_of_cell? w0 _ hx1)).trans hx1
      simp only [Int.toNat_natCast] at hx0 hx1
      have hk0t := eq_true (show (0 : Int) ≤ (k : Int) by omega)
      have hklt := eq_true (show (k : Int) < (l0.length : Int) by omega)
      have hwr : wrap64 ((k : Int) + 1) = ((k + 1 : Nat) : Int) := by unfold wrap64; omega
      gi_wp2_with (first | ((with_reducible refine gateIn_dst (N := 4) rfl ?_); refine wboxIn ?hg (N := 4) ?hd ?hab ?hdf (cs := #[.string (⟨#[]⟩ : ByteArray), .slice none 0 0]) (t := 65) ?hr ?_; (case hd => rfl); (case hg => rfl); (case hab => intro _; rfl); (case hdf => intro c hc; cases hc); (case hr => first | (go_simp; done) | (go_simp; rfl)); intro gs hg ws BS hb hk; have HW := Aside0.mk hb; have GE := Aside0.mk (Nat.le_of_eq hg.symm); have BKs := Aside0.mk BS; clear BS hb hk hg) | ((with_reducible refine gateIn_store (t := 65) rfl ?_); refine wstoreIn rfl rfl rfl (by first | rfl | (go_simp; done) | (go_simp; rfl)) (vs := [.string (rd_T65 l0 (k : Int)).f0, .slice A1 (rd_T65 l0 (k : Int)).f1.length c1]) (by first | rfl | (go_simp; rfl)) Tryz.sizeOf65 BKs.out rfl (by simp [Value.oneCell']) ?_; intro wt BT Ho Hb Hk; have nW := Aside0.mk (HW.out.trans (Hb _ GE.out HW.out.size)); clear HW; have HW := nW; clear nW; clear BKs; have hcs1 := blk_cell0 BT 1 _ rfl; clear BT Ho Hb Hk))
      clear hcs1 hx0 hx1
      gi_loopw [18] (fun i wi => ∃ (j : Nat) (pr : List (It w0)), j ≤ (rd_T65 l0 (k : Int)).f1.length ∧ i = .int .i64 j ∧ Aside0 (pr.map It.key = pairs 0 (l0.take k) ++ ((rd_T65 l0 (k : Int)).f1.take j).map fun x => ((k : Int), x)) ∧ Aside0 (J pr wi) ∧ Aside0 (Below w0.heap.size w0 wi) ∧ Aside0 (W.heap.size ≤ wi.heap.size)) (fun i _ => (rd_T65 l0 (k : Int)).f1.length - (intOf i).toNat)
      case atStart => exact ⟨0, pre, Nat.zero_le _, rfl, ⟨by rw [HP.out]; simp⟩, ⟨HJ.out _ _ _ none HJS.out (grown_of_below HW.out) (fun r e => by cases e)⟩, ⟨HB.out.trans (HW.out.mono HB.out.size)⟩, ⟨Nat.le_trans HSZ.out HW.out.size⟩⟩
      case round =>
        obtain ⟨j, pr, hj, rfl, HP2, HJ2, HB2, HSZ2⟩ := hrel
        by_cases hjl : j < (rd_T65 l0 (k : Int)).f1.length
        · obtain ⟨ad2, cs, e2, hcl, hcK, hcc⟩ := Kd.C_get HC1.out z39 (j : Int) (by omega) (by omega)
          subst e2
          have HCK : Aside0 (k39.K w0 (rd_T39 (rd_T65 l0 (k : Int)).f1 (j : Int)) cs) := ⟨hcK⟩
          have HSZ39 : Aside0 (∀ w, (Go.sizeOf 39).run Tryz.prog w = .ok cs.length w) := ⟨by rw [hcl]; exact Tryz.sizeOf39⟩
          have HLN := Aside0.mk hcl
          have HCC : Aside0 (∀ i v, cs[i]? = some v → wr.cell? ((ad2.add (j * 30)).add i) = some v) := ⟨fun i v hi => by
            have := hcc i v hi
            change w0.cell? (ad2.add (j * 30 + i)) = some v at this
            rw [addr_add_add]
            exact (HB2.out.cell (World.block_lt_of_cell? w0 _ this)).trans this⟩
          have hgj : rd_T39 (rd_T65 l0 (k : Int)).f1 (j : Int) = (rd_T65 l0 (k : Int)).f1[j] := by simp [rd_T39, List.getElem?_eq_getElem hjl]
          have HGJ := Aside0.mk hgj
          have HPN : Aside0 ((pr ++ [(⟨((k : Int), rd_T39 (rd_T65 l0 (k : Int)).f1 (j : Int), cs), HCK.out⟩ : It w0)]).map It.key = pairs 0 (l0.take k) ++ ((rd_T65 l0 (k : Int)).f1.take (j + 1)).map fun x => ((k : Int), x)) := ⟨by
            rw [List.map_append, HP2.out, map_take_succ _ hjl, ← hgj, List.append_assoc]; rfl⟩
          have HPF : Aside0 ((pr ++ [(⟨((k : Int), rd_T39 (rd_T65 l0 (k : Int)).f1 (j : Int), cs), HCK.out⟩ : It w0)]).map It.key <+: pairs 0 l0) := ⟨by
            rw [HPN.out]
            refine List.IsPrefix.trans ?_ (pairs_prefix l0 (k + 1))
            rw [pairs_succ hlt, HG.out]
            exact List.prefix_append_right_inj _ |>.2 (List.IsPrefix.map _ (List.take_prefix _ _))⟩
          have HLT : Aside0 (pr.length < (pairs 0 l0).length) := ⟨by
            have := HPF.out.length_le
            simp at this
            omega⟩
          clear hcK hcl hcc hgj
          have hj0t := eq_true (show (0 : Int) ≤ (j : Int) by omega)
          have hjlt := eq_true (show (j : Int) < ((rd_T65 l0 (k : Int)).f1.length : Int) by omega)
          have hwj : wrap64 ((j : Int) + 1) = ((j + 1 : Nat) : Int) := by unfold wrap64; omega
          gi_wp2_with (first | ((with_reducible refine gateIn_load (t := 39) rfl ?_); refine wloadIn rfl rfl (by first | rfl | (go_simp; done) | (go_simp; rfl)) Tryz.isAgg39 (cs := cs) HSZ39.out HCC.out ?_; clear HCC) | ((with_reducible refine gateIn_dst (N := 6) rfl ?_); refine wboxIn ?hg (N := 6) ?hd ?hab ?hdf (cs := #[.int .i64 0, .int .i64 0, .bool false, .int .i64 0, .int .i64 0, .int .i64 0, .string (⟨#[]⟩ : ByteArray), .bool false, .int .i64 0, .int .i64 0, .int .i64 0, .int .i64 0, .int .i64 0, .string (⟨#[]⟩ : ByteArray), .bool false, .int .i64 0, .string (⟨#[]⟩ : ByteArray), .int .i64 0, .int .i64 0, .bool false, .bool false, .string (⟨#[]⟩ : ByteArray), .int .i64 0, .int .i64 0, .bool false, .bool false, .string (⟨#[]⟩ : ByteArray), .int .i64 0, .slice none 0 0, .int .i64 0]) (t := 39) ?hr ?_; (case hd => rfl); (case hg => rfl); (case hab => intro _; rfl); (case hdf => intro c hc; cases hc); (case hr => first | (go_simp; done) | (go_simp; rfl)); intro gc hg ws BS hb hk; have HW := Aside0.mk hb; have GE := Aside0.mk (Nat.le_of_eq hg.symm); have BKc := Aside0.mk BS; clear BS hb hk hg) | ((with_reducible refine gateIn_store (t := 39) rfl ?_); refine wstoreIn rfl rfl rfl (by first | rfl | (go_simp; done) | (go_simp; rfl)) (vs := cs) (by first | rfl | (go_simp; rfl)) HSZ39.out BKc.out HLN.out.symm (k39.K_one HCK.out) ?_; intro wt BT Ho Hb Hk; have nW := Aside0.mk (HW.out.trans (Hb _ GE.out HW.out.size)); clear HW; have HW := nW; clear nW; clear BKc; have HCC := Aside0.mk (blk_cells BT); clear BT Ho Hb Hk; obtain ⟨fn, tmps, assign, body, hy, hR⟩ := HY.out pr ⟨((k : Int), rd_T39 (rd_T65 l0 (k : Int)).f1 (j : Int), cs), HCK.out⟩ wt (HJ.out _ _ _ none HJ2.out (grown_of_below HW.out) (fun r e => by cases e)) HLT.out; have hy' : (Instr.yield l #[.int .i64 (k : Int), .agg ⟨cs⟩]).run Tryz.prog wt = .ok (.round l fn tmps assign body) wt := hy; clear hy; have HR := Aside0.mk hR; clear hR))
          refine HR.out.mono ?_
          rintro e W3 (⟨rfl, hJ3, hk3⟩ | ⟨rfl, hJx3⟩)
          · have HJ3 := Aside0.mk hJ3
            have HK3 := Aside0.mk hk3
            clear hJ3 hk3
            gi_wp2
            go_roundw
            case rel => exact ⟨j + 1, _, by omega, by first | rfl | (simp; done) | (simp [*]; done), HPN, HJ3, ⟨(HB2.out.trans (HW.out.mono HB2.out.size)).trans HK3.out⟩, ⟨Nat.le_trans HSZ2.out (Nat.le_trans HW.out.size HK3.out.size)⟩⟩
            case measure => simp [intOf]; omega
          · gi_wp2
            refine bodyPost_ret (results_none rfl _ _ _) rfl ?_
            exact ⟨⟨_, rfl⟩, .inr ⟨_, HPF.out, hJx3⟩⟩
        · obtain rfl : j = (rd_T65 l0 (k : Int)).f1.length := by omega
          gi_wp2
          go_roundw
          case rel => exact ⟨k + 1, pr, by omega, by first | rfl | (simp; done) | (simp [*]; done), ⟨by rw [HP2.out, pairs_succ hlt, List.take_length, HG.out]⟩, HJ2, HB2, HSZ2⟩
          case measure => simp [intOf]; omega
    · obtain rfl : k = l0.length := by omega
      gi_wp2
      go_end0
      exact ⟨⟨_, rfl⟩, .inl ⟨pre, by rw [HP.out, List.take_length], HJS.out⟩⟩
end Go.Proofs.YtnafcjaddnkioaaGreatDoor.PLooks
end
section
set_option linter.unusedVariables false
set_option linter.unusedSimpArgs false
namespace Go.Proofs.YtnafcjaddnkioaaGreatDoor.PLooks
open Go.Qe Go.RowKit Go.Shelf Go.Proofs.YtnafcjaddnkioaaGreatDoorW.PrintWords Go.Proofs.YtnafcjaddnkioaaGreatDoorW.PrintLast Go.Proofs.YtnafcjaddnkioaaGreatDoorW.PrintMore
attribute [local go_sem] Oper.semAt_some
set_option maxHeartbeats 4000000 in
theorem all_in (F : Fence) (n : Nat) (h68 : F.fn 68) (hro : F.round = none) (s0 s1 s2 : Value) (w : World) :
    CallsIn F n Tryz.prog 68 #[.agg #[s0, s1, s2]] w fun e w' => e = .returned (.func (.func 141) #[] #[.pointer (some ⟨w.heap.size, 0, none⟩)]) ∧ w' = w.alloc (.cells #[s0, s1, s2] 26) := by
  have hu26 := Tryz.underlying26
  refine callsIn_of_wp Tryz.func68 rfl h68 ?_ hro
  simp only [Tryz.ntmps68, List.size_toArray, List.length_cons, List.length_nil, Nat.reduceAdd, Nat.reduceSub, Array.replicate_succ, Array.replicate_zero, List.push_toArray, List.append_toArray, List.nil_append, List.cons_append]
  gi_wp2
  go_ret
  exact ⟨rfl, rfl⟩
def hit (sheet col row : Int) {w : World} (x : It w) : Prop := x.1.1 = sheet ∧ x.1.2.1.f0 = col ∧ x.1.2.1.f1 = row
theorem find_pairs (sheet col row : Int) : ∀ (l : List S65) (i : Nat), ((pairs i l).find? fun p => p.1 == sheet && (p.2.f0 == col && p.2.f1 == row)).map (·.2) = if (i : Int) ≤ sheet then (l[(sheet - i).toNat]?).bind fun s => getL s.f1 col row else none := by
  intro l
  induction l with
  | nil => intro i; simp [pairs]
  | cons s l ih =>
    intro i
    have hm : ∀ (xs : List S39), ((xs.map fun x => ((i : Int), x)).find? fun p => p.1 == sheet && (p.2.f0 == col && p.2.f1 == row)) = if (i : Int) = sheet then (getL xs col row).map fun x => ((i : Int), x) else none := by
      intro xs
      unfold getL
      induction xs with
      | nil => simp
      | cons x xs ihx =>
        rw [List.map_cons, List.find?_cons, List.find?_cons]
        by_cases e : (i : Int) = sheet
        · simp only [e, beq_self_eq_true, Bool.true_and] at ihx ⊢
          cases h : (x.f0 == col && x.f1 == row) with
          | true => simp
          | false => simpa using ihx
        · have : ((i : Int) == sheet) = false := beq_eq_false_iff_ne.2 e
          rw [if_neg e] at ihx ⊢
          simp only [this, Bool.false_and]
          simpa only [this, Bool.false_and] using ihx
    rw [pairs, List.find?_append, hm]
    by_cases e : (i : Int) = sheet
    · rw [if_pos e, if_pos (by omega), show (sheet - (i : Int)).toNat = 0 by omega]
      have h2 := ih (i + 1)
      rw [if_neg (by omega)] at h2
      have h3 : ((pairs (i + 1) l).find? fun p => p.1 == sheet && (p.2.f0 == col && p.2.f1 == row)) = none := by simpa using h2
      rw [h3]
      have h4 : (s :: l)[0]? = some s := rfl
      rw [h4]
      cases hq : getL s.f1 col row with
      | none => simp [hq]
      | some x => simp [hq]
    · rw [if_neg e, Option.none_or, ih (i + 1)]
      by_cases h : (i : Int) ≤ sheet
      · rw [if_pos (by omega), if_pos h, show (sheet - (i : Int)).toNat = (sheet - ((i + 1 : Nat) : Int)).toNat + 1 by omega]
        simp
      · rw [if_neg (by omega), if_neg h]
theorem getR_find (sheet col row : Int) (l : List S65) : getR l sheet col row = ((pairs 0 l).find? fun p => p.1 == sheet && (p.2.f0 == col && p.2.f1 == row)).map (·.2) := by
  rw [find_pairs]
  simp [getR]
theorem getR_none_of {sheet col row : Int} {l : List S65} {w : World} {xs : List (It w)} (h : xs.map It.key = pairs 0 l) (hn : ∀ x ∈ xs, ¬ hit sheet col row x) : getR l sheet col row = none := by
  rw [getR_find, ← h, Option.map_eq_none_iff, List.find?_eq_none]
  intro p hp
  obtain ⟨x, hx, rfl⟩ := List.mem_map.1 hp
  have := hn x hx
  simpa [It.key, hit] using this
theorem getR_some_of {sheet col row : Int} {l : List S65} {w : World} {ini : List (It w)} {last : It w} (h : (ini ++ [last]).map It.key <+: pairs 0 l) (hn : ∀ x ∈ ini, ¬ hit sheet col row x) (hh : hit sheet col row last) :
    getR l sheet col row = some last.1.2.1 := by
  obtain ⟨r, h⟩ := h
  rw [getR_find, ← h, List.map_append, List.find?_append, List.find?_append]
  have h1 : (ini.map It.key).find? (fun p => p.1 == sheet && (p.2.f0 == col && p.2.f1 == row)) = none := by
    rw [List.find?_eq_none]
    intro p hp
    obtain ⟨x, hx, rfl⟩ := List.mem_map.1 hp
    have := hn x hx
    simpa [It.key, hit] using this
  obtain ⟨e1, e2, e3⟩ := hh
  rw [h1]
  simp [It.key, e1, e2, e3]
theorem results24 {P : Program} {W : World} {tmps : Array Value} {g g9 : Nat} {cs : List Value} {b : Bool} (h8 : tmps.getD 8 undef = .pointer (some ⟨g, 0, none⟩)) (h9 : tmps.getD 9 undef = .pointer (some ⟨g9, 0, none⟩))
    (hagg : ∀ w, (isAgg 39).run P w = .ok true w) (hagg4 : ∀ w, (isAgg 4).run P w = .ok false w) (hsz : ∀ w, (Go.sizeOf 39).run P w = .ok cs.length w) (hb : W.heap[g]? = some (.cells ⟨cs⟩ 39 (0, 0))) (hb9 : W.heap[g9]? = some (.cells #[.bool b] 4 (0, 0))) : (results Tryz.f24 tmps).run P W = .ok (.tuple #[.agg ⟨cs⟩, .bool b]) W := by
  have h1 := run_loadCells_list (P := P) W ⟨g, 0, none⟩ cs (blk_cells hb)
  have h2 : (asAddr (.pointer (some ⟨g, 0, none⟩))).run P W = .ok ⟨g, 0, none⟩ W := rfl
  have h3 : (asAddr (.pointer (some ⟨g9, 0, none⟩))).run P W = .ok ⟨g9, 0, none⟩ W := rfl
  have h4 := blk_cell0 hb9 0 (.bool b) rfl
  have h5 : (load ⟨g9, 0, none⟩).run P W = .ok (.bool b) W := by simp [go_sem, h4]
  have h8' : tmps[8]?.getD undef = .pointer (some ⟨g, 0, none⟩) := by simpa [Array.getD_eq_getD_getElem?] using h8
  have h9' : tmps[9]?.getD undef = .pointer (some ⟨g9, 0, none⟩) := by simpa [Array.getD_eq_getD_getElem?] using h9
  simp [results, Tryz.f24, h8', h9', Sem.run_bind, loadVar, hagg, hagg4, hsz, h1, h2, h3, h5, Result.andThen]
def NoHit (sheet col row : Int) {w : World} (pre : List (It w)) : Prop := ∀ x ∈ pre, ¬ hit sheet col row x
def HitEnd (sheet col row : Int) (g8 g9 : Nat) {w : World} (c : Code) (pre : List (It w)) (W : World) : Prop :=
  ∃ ini last, (c = .ret ∧ pre = ini ++ [last] ∧ NoHit sheet col row ini ∧ hit sheet col row last) ∧ (W.heap[g8]? = some (.cells ⟨last.1.2.2⟩ 39 (0, 0)) ∧ W.heap[g9]? = some (.cells #[.bool true] 4 (0, 0)))
theorem blk_own {β : Type} (g : Nat) (t : TypeId) (cs : Array Value) : Own (fun (_ : β) W => W.heap[g]? = some (.cells cs t (0, 0))) := fun s A B row hs hg hr =>
  (hg.block g (Array.getElem?_eq_some_iff.1 hs).1 (fun e => by
    obtain ⟨o, ho, hc⟩ := hr g e.symm
    rw [hs] at ho; cases ho; cases hc)).trans hs
set_option maxHeartbeats 4000000 in
set_option maxRecDepth 100000 in
theorem get_in (F : Fence) (n : Nat) (h24 : F.fn 24) (h68 : F.fn 68) (h141 : F.fn 141) (hro : F.round = none) (hn : 4 ≤ n) (A0 : Option Addr) (c0 : Nat) (l0 : List S65) (A1 : Option Addr) (n1 c1 : Nat) (A2 : Option Addr) (n2 c2 : Nat) (sheet col row : Int) (w : World)
    (hC : Kd.C k65 w A0 l0.length l0) (hmax : ∀ s ∈ l0, s.f1.length ≤ 1099511627776) (hl0 : l0.length ≤ 1099511627776) :
    CallsIn F n Tryz.prog 24 #[.agg #[.slice A0 l0.length c0, .slice A1 n1 c1, .slice A2 n2 c2], .int .i64 sheet, .int .i64 col, .int .i64 row] w (GetPost w l0 sheet col row) := by
  have h1 : 1 ≤ n := by omega
  have hu26 := Tryz.underlying26
  have hu39 := Tryz.underlying39
  have HC := Aside0.mk hC
  have HM := Aside0.mk hmax
  clear hC hmax
  have HW := Aside0.mk (Below.refl w.heap.size w)
  refine callsIn_of_wp_marks Tryz.func24 rfl h24 ?_ hro
  simp only [Tryz.ntmps24, List.size_toArray, List.length_cons, List.length_nil, Nat.reduceAdd, Nat.reduceSub, Array.replicate_succ, Array.replicate_zero, List.push_toArray, List.append_toArray, List.nil_append, List.cons_append]
  gi_wp2_with (first | ((with_reducible refine gateIn_dst (N := 4) rfl ?_); refine wboxIn ?hg (N := 4) ?hd ?hab ?hdf (cs := #[.slice A0 l0.length c0, .slice A1 n1 c1, .slice A2 n2 c2]) (t := 26) ?hr ?_; (case hd => rfl); (case hg => rfl); (case hab => intro _; rfl); (case hdf => intro c hc; cases hc); (case hr => first | (go_simp; done) | (go_simp; rfl)); intro gb hg wgb BS hb hk; have nW := Aside0.mk (below_step HW.out hb); have GEgb := Aside0.mk ((by rw [hg]; exact HW.out.size) : w.heap.size ≤ gb); clear HW; have HW := nW; clear nW; have BKgb := Aside0.mk BS; clear BS hb hk hg) | ((with_reducible refine gateIn_dst (N := 5) rfl ?_); refine wboxIn ?hg (N := 5) ?hd ?hab ?hdf (cs := #[.int .i64 sheet]) (t := 3) ?hr ?_; (case hd => rfl); (case hg => rfl); (case hab => intro _; rfl); (case hdf => intro c hc; cases hc); (case hr => first | (go_simp; done) | (go_simp; rfl)); intro gs hg wgs BS hb hk; have nW := Aside0.mk (below_step HW.out hb); have GEgs := Aside0.mk ((by rw [hg]; exact HW.out.size) : w.heap.size ≤ gs); have ngb := Aside0.mk (blk_below BKgb.out hb); have NEgbgs := Aside0.mk ((by rw [hg]; exact Nat.ne_of_lt (blk_lt BKgb.out)) : gb ≠ gs); clear HW; have HW := nW; clear nW; clear BKgb; have BKgb := ngb; clear ngb; have BKgs := Aside0.mk BS; clear BS hb hk hg) | ((with_reducible refine gateIn_dst (N := 6) rfl ?_); refine wboxIn ?hg (N := 6) ?hd ?hab ?hdf (cs := #[.int .i64 col]) (t := 3) ?hr ?_; (case hd => rfl); (case hg => rfl); (case hab => intro _; rfl); (case hdf => intro c hc; cases hc); (case hr => first | (go_simp; done) | (go_simp; rfl)); intro gc hg wgc BS hb hk; have nW := Aside0.mk (below_step HW.out hb); have GEgc := Aside0.mk ((by rw [hg]; exact HW.out.size) : w.heap.size ≤ gc); have ngb := Aside0.mk (blk_below BKgb.out hb); have NEgbgc := Aside0.mk ((by rw [hg]; exact Nat.ne_of_lt (blk_lt BKgb.out)) : gb ≠ gc); have ngs := Aside0.mk (blk_below BKgs.out hb); have NEgsgc := Aside0.mk ((by rw [hg]; exact Nat.ne_of_lt (blk_lt BKgs.out)) : gs ≠ gc); clear HW; have HW := nW; clear nW; clear BKgb; have BKgb := ngb; clear ngb; clear BKgs; have BKgs := ngs; clear ngs; have BKgc := Aside0.mk BS; clear BS hb hk hg) | ((with_reducible refine gateIn_dst (N := 7) rfl ?_); refine wboxIn ?hg (N := 7) ?hd ?hab ?hdf (cs := #[.int .i64 row]) (t := 3) ?hr ?_; (case hd => rfl); (case hg => rfl); (case hab => intro _; rfl); (case hdf => intro c hc; cases hc); (case hr => first | (go_simp; done) | (go_simp; rfl)); intro gr hg wgr BS hb hk; have nW := Aside0.mk (below_step HW.out hb); have GEgr := Aside0.mk ((by rw [hg]; exact HW.out.size) : w.heap.size ≤ gr); have ngb := Aside0.mk (blk_below BKgb.out hb); have NEgbgr := Aside0.mk ((by rw [hg]; exact Nat.ne_of_lt (blk_lt BKgb.out)) : gb ≠ gr); have ngs := Aside0.mk (blk_below BKgs.out hb); have NEgsgr := Aside0.mk ((by rw [hg]; exact Nat.ne_of_lt (blk_lt BKgs.out)) : gs ≠ gr); have ngc := Aside0.mk (blk_below BKgc.out hb); have NEgcgr := Aside0.mk ((by rw [hg]; exact Nat.ne_of_lt (blk_lt BKgc.out)) : gc ≠ gr); clear HW; have HW := nW; clear nW; clear BKgb; have BKgb := ngb; clear ngb; clear BKgs; have BKgs := ngs; clear ngs; clear BKgc; have BKgc := ngc; clear ngc; have BKgr := Aside0.mk BS; clear BS hb hk hg) | ((with_reducible refine gateIn_dst (N := 8) rfl ?_); refine wboxIn ?hg (N := 8) ?hd ?hab ?hdf (cs := #[.int .i64 0, .int .i64 0, .bool false, .int .i64 0, .int .i64 0, .int .i64 0, .string (⟨#[]⟩ : ByteArray), .bool false, .int .i64 0, .int .i64 0, .int .i64 0, .int .i64 0, .int .i64 0, .string (⟨#[]⟩ : ByteArray), .bool false, .int .i64 0, .string (⟨#[]⟩ : ByteArray), .int .i64 0, .int .i64 0, .bool false, .bool false, .string (⟨#[]⟩ : ByteArray), .int .i64 0, .int .i64 0, .bool false, .bool false, .string (⟨#[]⟩ : ByteArray), .int .i64 0, .slice none 0 0, .int .i64 0]) (t := 39) ?hr ?_; (case hd => rfl); (case hg => rfl); (case hab => intro _; rfl); (case hdf => intro c hc; cases hc); (case hr => first | (go_simp; done) | (go_simp; rfl)); intro g8 hg wg8 BS hb hk; have nW := Aside0.mk (below_step HW.out hb); have GEg8 := Aside0.mk ((by rw [hg]; exact HW.out.size) : w.heap.size ≤ g8); have ngb := Aside0.mk (blk_below BKgb.out hb); have NEgbg8 := Aside0.mk ((by rw [hg]; exact Nat.ne_of_lt (blk_lt BKgb.out)) : gb ≠ g8); have ngs := Aside0.mk (blk_below BKgs.out hb); have NEgsg8 := Aside0.mk ((by rw [hg]; exact Nat.ne_of_lt (blk_lt BKgs.out)) : gs ≠ g8); have ngc := Aside0.mk (blk_below BKgc.out hb); have NEgcg8 := Aside0.mk ((by rw [hg]; exact Nat.ne_of_lt (blk_lt BKgc.out)) : gc ≠ g8); have ngr := Aside0.mk (blk_below BKgr.out hb); have NEgrg8 := Aside0.mk ((by rw [hg]; exact Nat.ne_of_lt (blk_lt BKgr.out)) : gr ≠ g8); clear HW; have HW := nW; clear nW; clear BKgb; have BKgb := ngb; clear ngb; clear BKgs; have BKgs := ngs; clear ngs; clear BKgc; have BKgc := ngc; clear ngc; clear BKgr; have BKgr := ngr; clear ngr; have BKg8 := Aside0.mk BS; clear BS hb hk hg) | ((with_reducible refine gateIn_dst (N := 9) rfl ?_); refine wboxIn ?hg (N := 9) ?hd ?hab ?hdf (cs := #[.bool false]) (t := 4) ?hr ?_; (case hd => rfl); (case hg => rfl); (case hab => intro _; rfl); (case hdf => intro c hc; cases hc); (case hr => first | (go_simp; done) | (go_simp; rfl)); intro g9 hg wg9 BS hb hk; have nW := Aside0.mk (below_step HW.out hb); have GEg9 := Aside0.mk ((by rw [hg]; exact HW.out.size) : w.heap.size ≤ g9); have ngb := Aside0.mk (blk_below BKgb.out hb); have NEgbg9 := Aside0.mk ((by rw [hg]; exact Nat.ne_of_lt (blk_lt BKgb.out)) : gb ≠ g9); have ngs := Aside0.mk (blk_below BKgs.out hb); have NEgsg9 := Aside0.mk ((by rw [hg]; exact Nat.ne_of_lt (blk_lt BKgs.out)) : gs ≠ g9); have ngc := Aside0.mk (blk_below BKgc.out hb); have NEgcg9 := Aside0.mk ((by rw [hg]; exact Nat.ne_of_lt (blk_lt BKgc.out)) : gc ≠ g9); have ngr := Aside0.mk (blk_below BKgr.out hb); have NEgrg9 := Aside0.mk ((by rw [hg]; exact Nat.ne_of_lt (blk_lt BKgr.out)) : gr ≠ g9); have ng8 := Aside0.mk (blk_below BKg8.out hb); have NEg8g9 := Aside0.mk ((by rw [hg]; exact Nat.ne_of_lt (blk_lt BKg8.out)) : g8 ≠ g9); clear HW; have HW := nW; clear nW; clear BKgb; have BKgb := ngb; clear ngb; clear BKgs; have BKgs := ngs; clear ngs; clear BKgc; have BKgc := ngc; clear ngc; clear BKgr; have BKgr := ngr; clear ngr; clear BKg8; have BKg8 := ng8; clear ng8; have BKg9 := Aside0.mk BS; clear BS hb hk hg; have hb0 := blk_cell0 BKgb.out 0 _ rfl; have hb1 := blk_cell0 BKgb.out 1 _ rfl; have hb2 := blk_cell0 BKgb.out 2 _ rfl) | (gi_at_call 68; refine (all_in F (n - 1) h68 hro _ _ _ _).mono ?_; rintro e w' ⟨rfl, rfl⟩))
  have BKgx := Aside0.mk (blk_new wg9 (.cells #[.slice A0 l0.length c0, .slice A1 n1 c1, .slice A2 n2 c2] 26))
  have hba : Below wg9.heap.size wg9 (wg9.alloc (.cells #[.slice A0 l0.length c0, .slice A1 n1 c1, .slice A2 n2 c2] 26)) := below_alloc (Below.refl _ _) _
  replace HW := Aside0.mk (below_step HW.out hba)
  replace BKgs := Aside0.mk (blk_below BKgs.out hba)
  replace BKgc := Aside0.mk (blk_below BKgc.out hba)
  replace BKgr := Aside0.mk (blk_below BKgr.out hba)
  have HLX := Aside0.mk (show g9 < wg9.heap.size from blk_lt BKg9.out)
  replace BKg8 := Aside0.mk (blk_below BKg8.out hba)
  replace BKg9 := Aside0.mk (blk_below BKg9.out hba)
  clear hba BKgb hb0 hb1 hb2
  generalize hgx : wg9.heap.size = gx at *
  generalize wg9.alloc (.cells #[.slice A0 l0.length c0, .slice A1 n1 c1, .slice A2 n2 c2] 26) = W0 at *
  clear hgx
  have hgxW : gx < W0.heap.size := blk_lt BKgx.out
  refine wpIn_rangeFunc_ownH hro h1 (gf := 141) (lb := #[.pointer (some ⟨gx, 0, none⟩)]) rfl h141 (enters_of Tryz.func141 (by kernel_rfl) rfl)
    (encs := fun x : It w => #[Value.int .i64 x.1.1, Value.agg ⟨x.1.2.2⟩]) (Kp := Below w.heap.size) (S := fun xs => xs.map It.key = pairs 0 l0) (Sp := fun pre => pre.map It.key <+: pairs 0 l0) (N := (pairs 0 l0).length) (w0 := W0)
    (fun l J Jx W hW hJ hJx hY h0 => all1_in F (n - 1) h141 hro (by omega) l gx w A0 c0 l0 (.slice A1 n1 c1) (.slice A2 n2 c2) HC.out HM.out hl0 J Jx W hJ hY (blk_below BKgx.out hW) (below_step HW.out hW) h0)
    belowK_t (belowK_b HW.out.size) (Below.refl _ _) (fun _ => rfl)
    (fun pre W => ((((W.heap[gs]? = some (.cells #[.int .i64 sheet] 3 (0, 0)) ∧ W.heap[gc]? = some (.cells #[.int .i64 col] 3 (0, 0))) ∧ (W.heap[gr]? = some (.cells #[.int .i64 row] 3 (0, 0)) ∧ W.heap[g8]? = some (.cells #[.int .i64 0, .int .i64 0, .bool false, .int .i64 0, .int .i64 0, .int .i64 0, .string (⟨#[]⟩ : ByteArray), .bool false, .int .i64 0, .int .i64 0, .int .i64 0, .int .i64 0, .int .i64 0, .string (⟨#[]⟩ : ByteArray), .bool false, .int .i64 0, .string (⟨#[]⟩ : ByteArray), .int .i64 0, .int .i64 0, .bool false, .bool false, .string (⟨#[]⟩ : ByteArray), .int .i64 0, .int .i64 0, .bool false, .bool false, .string (⟨#[]⟩ : ByteArray), .int .i64 0, .slice none 0 0, .int .i64 0] 39 (0, 0)))) ∧ W.heap[g9]? = some (.cells #[.bool false] 4 (0, 0))) ∧ NoHit sheet col row pre) ∧ Below w.heap.size w W)
    (fun c pre W => HitEnd sheet col row g8 g9 c pre W ∧ Below w.heap.size w W)
    (OwnFrom.and (OwnFrom.and (OwnFrom.and (OwnFrom.and (OwnFrom.and (Own.from (blk_own _ _ _) _) (Own.from (blk_own _ _ _) _)) (OwnFrom.and (Own.from (blk_own _ _ _) _) (Own.from (blk_own _ _ _) _))) (Own.from (blk_own _ _ _) _)) (fun _ _ _ _ hs _ _ => hs)) (ownFrom_below (Nat.le_refl _) HW.out.size))
    (fun c => OwnFrom.and (Own.from (fun s A B row hs hg hr => by
      obtain ⟨ini, last, h, h8, h9⟩ := hs
      exact ⟨ini, last, h, blk_own g8 39 _ () A B row h8 hg hr, blk_own g9 4 _ () A B row h9 hg hr⟩) _) (ownFrom_below (Nat.le_refl _) HW.out.size))
    ⟨⟨⟨⟨⟨BKgs.out, BKgc.out⟩, BKgr.out, BKg8.out⟩, BKg9.out⟩, fun x hx => by cases hx⟩, HW.out⟩
    (fun x a' W => ∃ Bx, (w.heap.size ≤ Bx ∧ W.heap[Bx]? = some (.cells ⟨x.1.2.2⟩ 39 (0, 0))) ∧ a' = { tmps := #[.agg #[.slice A0 l0.length c0, .slice A1 n1 c1, .slice A2 n2 c2], .int .i64 sheet, .int .i64 col, .int .i64 row, .pointer (some ⟨gb, 0, none⟩), .pointer (some ⟨gs, 0, none⟩), .pointer (some ⟨gc, 0, none⟩), .pointer (some ⟨gr, 0, none⟩), .pointer (some ⟨g8, 0, none⟩), .pointer (some ⟨g9, 0, none⟩), .int .i64 x.1.1, .pointer (some ⟨Bx, 0, none⟩), .agg #[.slice A0 l0.length c0, .slice A1 n1 c1, .slice A2 n2 c2], .func (.func 141) #[] #[.pointer (some ⟨gx, 0, none⟩)], .int .i64 x.1.1, .agg ⟨x.1.2.2⟩, undef, undef, undef, undef, undef, undef, undef, undef, undef, undef, undef, undef, undef, undef, undef, undef, undef, undef, undef], defers := [] })
    (fun x a' _ X Y row hs hg hr => by obtain ⟨Bx, ⟨h1, h2⟩, h3⟩ := hs; exact ⟨Bx, ⟨h1, blk_own Bx 39 _ () X Y row h2 hg (fun r e => (hr r e).2)⟩, h3⟩)
    ?assign ?body ?done ?stop
  case assign =>
    rintro l pre x W K ⟨⟨⟨⟨⟨is, ic⟩, ir, i8⟩, i9⟩, ih⟩, iB⟩ hK
    have HK := Aside0.mk hK
    have HIs := Aside0.mk is
    have HIc := Aside0.mk ic
    have HIr := Aside0.mk ir
    have HI8 := Aside0.mk i8
    have HI9 := Aside0.mk i9
    have HIh := Aside0.mk ih
    have HIB := Aside0.mk iB
    clear hK is ic ir i8 i9 ih iB
    obtain ⟨⟨xi, xx, cs⟩, hxK⟩ := x
    have HCK : Aside0 (k39.K w xx cs) := ⟨hxK⟩
    have HLN := Aside0.mk (k39.K_len hxK)
    have HSZ39 : Aside0 (∀ w, (Go.sizeOf 39).run Tryz.prog w = .ok cs.length w) := ⟨by rw [HLN.out]; exact Tryz.sizeOf39⟩
    gi_wp2_with (first | ((with_reducible refine gateIn_dst (N := 11) rfl ?_); refine wboxIn ?hg (N := 11) ?hd ?hab ?hdf (cs := #[.int .i64 0, .int .i64 0, .bool false, .int .i64 0, .int .i64 0, .int .i64 0, .string (⟨#[]⟩ : ByteArray), .bool false, .int .i64 0, .int .i64 0, .int .i64 0, .int .i64 0, .int .i64 0, .string (⟨#[]⟩ : ByteArray), .bool false, .int .i64 0, .string (⟨#[]⟩ : ByteArray), .int .i64 0, .int .i64 0, .bool false, .bool false, .string (⟨#[]⟩ : ByteArray), .int .i64 0, .int .i64 0, .bool false, .bool false, .string (⟨#[]⟩ : ByteArray), .int .i64 0, .slice none 0 0, .int .i64 0]) (t := 39) ?hr ?_; (case hd => rfl); (case hg => rfl); (case hab => intro _; rfl); (case hdf => intro c hc; cases hc); (case hr => first | (go_simp; done) | (go_simp; rfl)); intro gy hg ws BS hb hk; have HWW := Aside0.mk hb; have HKO := Aside0.mk hk; have GEy := Aside0.mk (Nat.le_of_eq hg.symm); have BKy := Aside0.mk BS; clear BS hb hk hg) | ((with_reducible refine gateIn_store (t := 39) rfl ?_); refine wstoreIn rfl rfl rfl (by first | rfl | (go_simp; done) | (go_simp; rfl)) (vs := cs) (by first | rfl | (go_simp; rfl)) HSZ39.out BKy.out HLN.out.symm (k39.K_one HCK.out) ?_; intro wt BT Ho Hb Hk; have nW := Aside0.mk (HWW.out.trans (Hb _ GEy.out HWW.out.size)); have nK := Aside0.mk (HKO.out.trans Hk); clear HWW HKO; have HWW := nW; have HKO := nK; clear nW nK; clear BKy; have BKy := Aside0.mk BT; clear BT Ho Hb Hk))
    exact HK.out _ _ (HKO.out.from _) (HWW.out.mono HIB.out.size) ⟨⟨⟨⟨⟨blk_below HIs.out HWW.out, blk_below HIc.out HWW.out⟩, blk_below HIr.out HWW.out, blk_below HI8.out HWW.out⟩, blk_below HI9.out HWW.out⟩, HIh.out⟩, below_step HIB.out HWW.out⟩ ⟨gy, ⟨Nat.le_trans HIB.out.size GEy.out, BKy.out⟩, rfl⟩
  case body =>
    rintro l pre x a' W hl hr ⟨⟨⟨⟨⟨is, ic⟩, ir, i8⟩, i9⟩, ih⟩, iB⟩ ⟨Bx, ⟨hBx1, hBx2⟩, rfl⟩ hlt
    have cs5 := blk_cell0 is 0 _ rfl
    have cs6 := blk_cell0 ic 0 _ rfl
    have cs7 := blk_cell0 ir 0 _ rfl
    have HIs := Aside0.mk is
    have HIc := Aside0.mk ic
    have HIr := Aside0.mk ir
    have HI8 := Aside0.mk i8
    have HI9 := Aside0.mk i9
    have HIh := Aside0.mk ih
    have HIB := Aside0.mk iB
    have HBx := Aside0.mk hBx2
    clear is ic ir i8 i9 ih iB hBx2 hr hlt
    obtain ⟨⟨xi, xx, cs⟩, hxK⟩ := x
    have HCK : Aside0 (k39.K w xx cs) := ⟨hxK⟩
    have HLN := Aside0.mk (k39.K_len hxK)
    have HSZ39 : Aside0 (∀ w, (Go.sizeOf 39).run Tryz.prog w = .ok cs.length w) := ⟨by rw [HLN.out]; exact Tryz.sizeOf39⟩
    have hcc : cs[0]? = some (.int .i64 xx.f0) ∧ cs[1]? = some (.int .i64 xx.f1) := by
      obtain ⟨A, c, e, _⟩ := k39_open (show k39.K w xx cs from hxK)
      rw [e]
      exact ⟨rfl, rfl⟩
    have cx0 := blk_cell0 HBx.out 0 _ hcc.1
    have cx1 := blk_cell0 HBx.out 1 _ hcc.2
    have HCC := Aside0.mk (blk_cells HBx.out)
    clear hcc
    by_cases q : xi = sheet ∧ xx.f0 = col ∧ xx.f1 = row
    · have q0b : (xi == sheet) = true := beq_iff_eq.2 q.1
      have q1b : (xx.f0 == col) = true := beq_iff_eq.2 q.2.1
      have q2b : (xx.f1 == row) = true := beq_iff_eq.2 q.2.2
      have HQ := Aside0.mk q
      clear q
      gi_wp2_with (first | ((with_reducible refine gateIn_load (t := 39) rfl ?_); refine wloadIn rfl rfl (by first | rfl | (go_simp; done) | (go_simp; rfl)) Tryz.isAgg39 (cs := cs) HSZ39.out HCC.out ?_) | ((with_reducible refine gateIn_store (t := 39) rfl ?_); refine wstoreIn rfl rfl rfl (by first | rfl | (go_simp; done) | (go_simp; rfl)) (vs := cs) (by first | rfl | (go_simp; rfl)) HSZ39.out HI8.out HLN.out.symm (k39.K_one HCK.out) ?_; intro wt BT Ho Hb Hk; have HWW := Aside0.mk (Hb _ GEg8.out HIB.out.size); have HKO := Aside0.mk Hk; have H8 := Aside0.mk BT; have H9 := Aside0.mk ((Ho g9 NEg8g9.out.symm).trans HI9.out); have h9c := blk_cell0 H9.out 0 _ rfl; have h9f := blk_frozen H9.out 0; clear BT Ho Hb Hk))
      have hfin := setCells_heap g9 [.bool true] 0 wt _ 4 (0, 0) H9.out
      have hoth := setCells_other g9 [.bool true] 0 wt g8 NEg8g9.out
      exact ⟨(HKO.out.trans (KeepsOthers.setCell wt ⟨g9, 0, none⟩ (.bool true))).from _, ⟨pre, ⟨(xi, xx, cs), hxK⟩, ⟨rfl, rfl, HIh.out, HQ.out⟩, hoth.trans H8.out, hfin⟩, (HIB.out.trans HWW.out).setCell (p := ⟨g9, 0, none⟩) GEg9.out _⟩
    · have HQ : Aside0 (NoHit sheet col row (pre ++ [(⟨(xi, xx, cs), hxK⟩ : It w)])) := ⟨fun y hy => by
        rcases List.mem_append.1 hy with h | h
        · exact HIh.out y h
        · obtain rfl := List.mem_singleton.1 h
          exact q⟩
      by_cases q0 : xi = sheet
      · have q0b : (xi == sheet) = true := beq_iff_eq.2 q0
        by_cases q1 : xx.f0 = col
        · have q1b : (xx.f0 == col) = true := beq_iff_eq.2 q1
          have q2b : (xx.f1 == row) = false := beq_eq_false_iff_ne.2 fun h => q ⟨q0, q1, h⟩
          clear q q0 q1
          gi_wp2
          exact ⟨KeepsFrom.refl _ _, Below.refl _ _, ⟨⟨⟨⟨HIs.out, HIc.out⟩, HIr.out, HI8.out⟩, HI9.out⟩, HQ.out⟩, HIB.out⟩
        · have q1b : (xx.f0 == col) = false := beq_eq_false_iff_ne.2 q1
          clear q q0 q1
          gi_wp2
          exact ⟨KeepsFrom.refl _ _, Below.refl _ _, ⟨⟨⟨⟨HIs.out, HIc.out⟩, HIr.out, HI8.out⟩, HI9.out⟩, HQ.out⟩, HIB.out⟩
      · have q0b : (xi == sheet) = false := beq_eq_false_iff_ne.2 q0
        clear q q0
        gi_wp2
        exact ⟨KeepsFrom.refl _ _, Below.refl _ _, ⟨⟨⟨⟨HIs.out, HIc.out⟩, HIr.out, HI8.out⟩, HI9.out⟩, HQ.out⟩, HIB.out⟩
  case done =>
    rintro D xs W hDW hS ⟨⟨⟨⟨⟨is, ic⟩, ir, i8⟩, i9⟩, ih⟩, iB⟩ hK
    have cs6 := blk_cell0 ic 0 _ rfl
    have cs7 := blk_cell0 ir 0 _ rfl
    have HI8 := Aside0.mk i8
    have HI9 := Aside0.mk i9
    have HIB := Aside0.mk iB
    have HK := Aside0.mk hK
    have HG := Aside0.mk (getR_none_of hS ih)
    have HD8 : Aside0 (D ≠ g8) := ⟨fun e => by rw [e, i8] at hK; cases hK⟩
    have HD9 : Aside0 (D ≠ g9) := ⟨fun e => by rw [e, i9] at hK; cases hK⟩
    clear is ic ir i8 i9 ih iB hK hS
    gi_wp2_with (first | ((with_reducible refine gateIn_store (t := 39) rfl ?_); refine wstoreIn rfl rfl rfl (by first | rfl | (go_simp; done) | (go_simp; rfl)) (vs := zcs col row) (by first | rfl | (go_simp; rfl)) Tryz.sizeOf39 HI8.out rfl (zcs_one _ _) ?_; intro wt BT Ho Hb Hk; have HWW := Aside0.mk (Hb _ GEg8.out HIB.out.size); have HKO := Aside0.mk Hk; have H8 := Aside0.mk BT; have H9 := Aside0.mk ((Ho g9 NEg8g9.out.symm).trans HI9.out); have h9c := blk_cell0 H9.out 0 _ rfl; have h9f := blk_frozen H9.out 0; have HKD := Aside0.mk ((Ho D HD8.out).trans HK.out); clear BT Ho Hb Hk))
    have hfin := setCells_heap g9 [.bool false] 0 wt _ 4 (0, 0) H9.out
    have hoth := setCells_other g9 [.bool false] 0 wt g8 NEg8g9.out
    have hD := (setCells_other g9 [.bool false] 0 wt D HD9.out).trans HKD.out
    refine ⟨by simp, .inl ⟨_, _, rfl, run_takeDeferred hD, ?_⟩⟩
    refine ⟨_, results24 (g := g8) (g9 := g9) (cs := zcs col row) (b := false) rfl rfl Tryz.isAgg39 Tryz.isAgg4 Tryz.sizeOf39 ((World.putObj_heap_other HD8.out.symm).trans (hoth.trans H8.out)) ((World.putObj_heap_other HD9.out.symm).trans hfin), ?_⟩
    unfold GetPost
    rw [HG.out]
    exact ⟨_, rfl, zcs_reads _ _ _, ((HIB.out.trans HWW.out).setCell (p := ⟨g9, 0, none⟩) GEg9.out _).trans (belowK_b (w := w) (Nat.le_refl _) _ D _ _ (Nat.le_trans HW.out.size hDW) hD rfl rfl)⟩
  case stop =>
    rintro D c pre W hDW hSp ⟨h, hB⟩ hK
    obtain ⟨ini, last, ⟨rfl, rfl, hno, hh⟩, h8, h9⟩ := h
    have HD8 : Aside0 (D ≠ g8) := ⟨fun e => by rw [e, h8] at hK; cases hK⟩
    have HD9 : Aside0 (D ≠ g9) := ⟨fun e => by rw [e, h9] at hK; cases hK⟩
    have HG := Aside0.mk (getR_some_of hSp hno hh)
    gi_wp2
    refine ⟨by simp, .inl ⟨_, _, rfl, run_takeDeferred hK, ?_⟩⟩
    have HLN := k39.K_len last.2
    refine ⟨_, results24 (g := g8) (g9 := g9) (cs := last.1.2.2) (b := true) rfl rfl Tryz.isAgg39 Tryz.isAgg4 (by rw [HLN]; exact Tryz.sizeOf39) ((World.putObj_heap_other HD8.out.symm).trans h8) ((World.putObj_heap_other HD9.out.symm).trans h9), ?_⟩
    unfold GetPost
    rw [HG.out]
    exact ⟨_, rfl, last.2, hB.trans (belowK_b (w := w) (Nat.le_refl _) _ D _ _ (Nat.le_trans HW.out.size hDW) hK rfl rfl)⟩
end Go.Proofs.YtnafcjaddnkioaaGreatDoor.PLooks
end
