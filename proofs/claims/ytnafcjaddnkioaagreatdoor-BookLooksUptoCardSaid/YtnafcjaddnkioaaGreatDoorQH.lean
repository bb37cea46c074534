/- Loads and stores of great structs in one step; the values' own types. -/
import Derived.Test.YtnafcjaddnkioaaGreatDoorQA
import Derived.Laws.Cells
section
set_option linter.unusedVariables false
set_option linter.unusedSimpArgs false
namespace Go.Proofs.YtnafcjaddnkioaaGreatDoor.PLooks
open Go.RowKit Go.Proofs.YtnafcjaddnkioaaGreatDoorW.PrintWords
section
variable {P : Program} {ops : Array Oper} {rest : List Oper} {o : Oper} {a : Act} {Q : Exit → Act → World → Prop}
theorem blk20 {w : World} {g : Nat} {t : TypeId} {v0 v1 v2 v3 v4 v5 v6 v7 v8 v9 v10 v11 v12 v13 v14 v15 v16 v17 v18 v19 : Value} (h : w.heap[g]? = some (.cells #[v0, v1, v2, v3, v4, v5, v6, v7, v8, v9, v10, v11, v12, v13, v14, v15, v16, v17, v18, v19] t (0, 0))) : w.cell? ⟨g, 0, none⟩ = some v0 ∧ w.cell? ⟨g, 1, none⟩ = some v1 ∧ w.cell? ⟨g, 2, none⟩ = some v2 ∧ w.cell? ⟨g, 3, none⟩ = some v3 ∧ w.cell? ⟨g, 4, none⟩ = some v4 ∧ w.cell? ⟨g, 5, none⟩ = some v5 ∧ w.cell? ⟨g, 6, none⟩ = some v6 ∧ w.cell? ⟨g, 7, none⟩ = some v7 ∧ w.cell? ⟨g, 8, none⟩ = some v8 ∧ w.cell? ⟨g, 9, none⟩ = some v9 ∧ w.cell? ⟨g, 10, none⟩ = some v10 ∧ w.cell? ⟨g, 11, none⟩ = some v11 ∧ w.cell? ⟨g, 12, none⟩ = some v12 ∧ w.cell? ⟨g, 13, none⟩ = some v13 ∧ w.cell? ⟨g, 14, none⟩ = some v14 ∧ w.cell? ⟨g, 15, none⟩ = some v15 ∧ w.cell? ⟨g, 16, none⟩ = some v16 ∧ w.cell? ⟨g, 17, none⟩ = some v17 ∧ w.cell? ⟨g, 18, none⟩ = some v18 ∧ w.cell? ⟨g, 19, none⟩ = some v19 := ⟨blk_cell h 0, blk_cell h 1, blk_cell h 2, blk_cell h 3, blk_cell h 4, blk_cell h 5, blk_cell h 6, blk_cell h 7, blk_cell h 8, blk_cell h 9, blk_cell h 10, blk_cell h 11, blk_cell h 12, blk_cell h 13, blk_cell h 14, blk_cell h 15, blk_cell h 16, blk_cell h 17, blk_cell h 18, blk_cell h 19⟩
theorem frz20 {w : World} {g : Nat} {t : TypeId} {cs : Array Value} (h : w.heap[g]? = some (.cells cs t (0, 0))) : w.frozen? ⟨g, 0, none⟩ = false ∧ w.frozen? ⟨g, 1, none⟩ = false ∧ w.frozen? ⟨g, 2, none⟩ = false ∧ w.frozen? ⟨g, 3, none⟩ = false ∧ w.frozen? ⟨g, 4, none⟩ = false ∧ w.frozen? ⟨g, 5, none⟩ = false ∧ w.frozen? ⟨g, 6, none⟩ = false ∧ w.frozen? ⟨g, 7, none⟩ = false ∧ w.frozen? ⟨g, 8, none⟩ = false ∧ w.frozen? ⟨g, 9, none⟩ = false ∧ w.frozen? ⟨g, 10, none⟩ = false ∧ w.frozen? ⟨g, 11, none⟩ = false ∧ w.frozen? ⟨g, 12, none⟩ = false ∧ w.frozen? ⟨g, 13, none⟩ = false ∧ w.frozen? ⟨g, 14, none⟩ = false ∧ w.frozen? ⟨g, 15, none⟩ = false ∧ w.frozen? ⟨g, 16, none⟩ = false ∧ w.frozen? ⟨g, 17, none⟩ = false ∧ w.frozen? ⟨g, 18, none⟩ = false ∧ w.frozen? ⟨g, 19, none⟩ = false := ⟨blk_frozen h 0, blk_frozen h 1, blk_frozen h 2, blk_frozen h 3, blk_frozen h 4, blk_frozen h 5, blk_frozen h 6, blk_frozen h 7, blk_frozen h 8, blk_frozen h 9, blk_frozen h 10, blk_frozen h 11, blk_frozen h 12, blk_frozen h 13, blk_frozen h 14, blk_frozen h 15, blk_frozen h 16, blk_frozen h 17, blk_frozen h 18, blk_frozen h 19⟩
theorem bk_cell {W : World} {g : Nat} {cs : Array Value} {t : TypeId} {j : Nat} {v : Value} (h : Aside0 (W.heap[g]? = some (.cells cs t (0, 0)))) (e : cs[j]? = some v) : W.cell? ⟨g, j, none⟩ = some v := (blk_cell h.out j).trans e
theorem gate_load {W : World} {t : TypeId} {x : Operand} (_ho : o.op = .load t x) (h : wpList P ops Q (o :: rest) a W) : wpList P ops Q (o :: rest) a W := h
theorem run_load_agg {W : World} {t : TypeId} {x : Operand} (ho : o.op = .load t x) {ad : Addr} (ha : a.eval x = .pointer (some ad)) (hagg : ∀ w, (isAgg t).run P w = .ok true w) (cs : List Value)
    (hsz : ∀ w, (Go.sizeOf t).run P w = .ok cs.length w) (hc : ∀ j v, cs[j]? = some v → W.cell? (ad.add j) = some v) : (execOp a.eval o).run P W = .ok (.value (.agg cs.toArray)) W := by
  have h1 := run_loadCells_list (P := P) W ad cs hc
  have h2 : (Instr.sureAddr (.pointer (some ad))).run P W = .ok ad W := rfl
  unfold execOp
  simp [ho, ha, Sem.run_bind, Instr.loadAt, loadVar, hagg, hsz, h1, h2, Result.andThen]
theorem load_run20 {W : World} {t : TypeId} {x : Operand} (ho : o.op = .load t x) {ad : Addr} (ha : a.eval x = .pointer (some ad)) (hagg : ∀ w, (isAgg t).run P w = .ok true w) (hsz : ∀ w, (Go.sizeOf t).run P w = .ok 20 w) {v0 v1 v2 v3 v4 v5 v6 v7 v8 v9 v10 v11 v12 v13 v14 v15 v16 v17 v18 v19 : Value} (h0 : W.cell? ad = some v0 := by first | (with_reducible assumption) | (apply bk_cell; with_reducible assumption; rfl) | ((try dsimp only); (try simp only [Nat.add_assoc, Nat.reduceAdd]); with_reducible assumption)) (h1 : W.cell? ⟨ad.block, ad.off + 1, none⟩ = some v1 := by first | (with_reducible assumption) | (apply bk_cell; with_reducible assumption; rfl) | ((try dsimp only); (try simp only [Nat.add_assoc, Nat.reduceAdd]); with_reducible assumption)) (h2 : W.cell? ⟨ad.block, ad.off + 2, none⟩ = some v2 := by first | (with_reducible assumption) | (apply bk_cell; with_reducible assumption; rfl) | ((try dsimp only); (try simp only [Nat.add_assoc, Nat.reduceAdd]); with_reducible assumption)) (h3 : W.cell? ⟨ad.block, ad.off + 3, none⟩ = some v3 := by first | (with_reducible assumption) | (apply bk_cell; with_reducible assumption; rfl) | ((try dsimp only); (try simp only [Nat.add_assoc, Nat.reduceAdd]); with_reducible assumption)) (h4 : W.cell? ⟨ad.block, ad.off + 4, none⟩ = some v4 := by first | (with_reducible assumption) | (apply bk_cell; with_reducible assumption; rfl) | ((try dsimp only); (try simp only [Nat.add_assoc, Nat.reduceAdd]); with_reducible assumption)) (h5 : W.cell? ⟨ad.block, ad.off + 5, none⟩ = some v5 := by first | (with_reducible assumption) | (apply bk_cell; with_reducible assumption; rfl) | ((try dsimp only); (try simp only [Nat.add_assoc, Nat.reduceAdd]); with_reducible assumption)) (h6 : W.cell? ⟨ad.block, ad.off + 6, none⟩ = some v6 := by first | (with_reducible assumption) | (apply bk_cell; with_reducible assumption; rfl) | ((try dsimp only); (try simp only [Nat.add_assoc, Nat.reduceAdd]); with_reducible assumption)) (h7 : W.cell? ⟨ad.block, ad.off + 7, none⟩ = some v7 := by first | (with_reducible assumption) | (apply bk_cell; with_reducible assumption; rfl) | ((try dsimp only); (try simp only [Nat.add_assoc, Nat.reduceAdd]); with_reducible assumption)) (h8 : W.cell? ⟨ad.block, ad.off + 8, none⟩ = some v8 := by first | (with_reducible assumption) | (apply bk_cell; with_reducible assumption; rfl) | ((try dsimp only); (try simp only [Nat.add_assoc, Nat.reduceAdd]); with_reducible assumption)) (h9 : W.cell? ⟨ad.block, ad.off + 9, none⟩ = some v9 := by first | (with_reducible assumption) | (apply bk_cell; with_reducible assumption; rfl) | ((try dsimp only); (try simp only [Nat.add_assoc, Nat.reduceAdd]); with_reducible assumption)) (h10 : W.cell? ⟨ad.block, ad.off + 10, none⟩ = some v10 := by first | (with_reducible assumption) | (apply bk_cell; with_reducible assumption; rfl) | ((try dsimp only); (try simp only [Nat.add_assoc, Nat.reduceAdd]); with_reducible assumption)) (h11 : W.cell? ⟨ad.block, ad.off + 11, none⟩ = some v11 := by first | (with_reducible assumption) | (apply bk_cell; with_reducible assumption; rfl) | ((try dsimp only); (try simp only [Nat.add_assoc, Nat.reduceAdd]); with_reducible assumption)) (h12 : W.cell? ⟨ad.block, ad.off + 12, none⟩ = some v12 := by first | (with_reducible assumption) | (apply bk_cell; with_reducible assumption; rfl) | ((try dsimp only); (try simp only [Nat.add_assoc, Nat.reduceAdd]); with_reducible assumption)) (h13 : W.cell? ⟨ad.block, ad.off + 13, none⟩ = some v13 := by first | (with_reducible assumption) | (apply bk_cell; with_reducible assumption; rfl) | ((try dsimp only); (try simp only [Nat.add_assoc, Nat.reduceAdd]); with_reducible assumption)) (h14 : W.cell? ⟨ad.block, ad.off + 14, none⟩ = some v14 := by first | (with_reducible assumption) | (apply bk_cell; with_reducible assumption; rfl) | ((try dsimp only); (try simp only [Nat.add_assoc, Nat.reduceAdd]); with_reducible assumption)) (h15 : W.cell? ⟨ad.block, ad.off + 15, none⟩ = some v15 := by first | (with_reducible assumption) | (apply bk_cell; with_reducible assumption; rfl) | ((try dsimp only); (try simp only [Nat.add_assoc, Nat.reduceAdd]); with_reducible assumption)) (h16 : W.cell? ⟨ad.block, ad.off + 16, none⟩ = some v16 := by first | (with_reducible assumption) | (apply bk_cell; with_reducible assumption; rfl) | ((try dsimp only); (try simp only [Nat.add_assoc, Nat.reduceAdd]); with_reducible assumption)) (h17 : W.cell? ⟨ad.block, ad.off + 17, none⟩ = some v17 := by first | (with_reducible assumption) | (apply bk_cell; with_reducible assumption; rfl) | ((try dsimp only); (try simp only [Nat.add_assoc, Nat.reduceAdd]); with_reducible assumption)) (h18 : W.cell? ⟨ad.block, ad.off + 18, none⟩ = some v18 := by first | (with_reducible assumption) | (apply bk_cell; with_reducible assumption; rfl) | ((try dsimp only); (try simp only [Nat.add_assoc, Nat.reduceAdd]); with_reducible assumption)) (h19 : W.cell? ⟨ad.block, ad.off + 19, none⟩ = some v19 := by first | (with_reducible assumption) | (apply bk_cell; with_reducible assumption; rfl) | ((try dsimp only); (try simp only [Nat.add_assoc, Nat.reduceAdd]); with_reducible assumption)) : (execOp a.eval o).run P W = .ok (.value (.agg #[v0, v1, v2, v3, v4, v5, v6, v7, v8, v9, v10, v11, v12, v13, v14, v15, v16, v17, v18, v19])) W := by
  refine run_load_agg ho ha hagg [v0, v1, v2, v3, v4, v5, v6, v7, v8, v9, v10, v11, v12, v13, v14, v15, v16, v17, v18, v19] hsz fun j v hj => ?_
  match j, hj with
  | 0, hj => cases hj; exact h0
  | 1, hj => cases hj; exact h1
  | 2, hj => cases hj; exact h2
  | 3, hj => cases hj; exact h3
  | 4, hj => cases hj; exact h4
  | 5, hj => cases hj; exact h5
  | 6, hj => cases hj; exact h6
  | 7, hj => cases hj; exact h7
  | 8, hj => cases hj; exact h8
  | 9, hj => cases hj; exact h9
  | 10, hj => cases hj; exact h10
  | 11, hj => cases hj; exact h11
  | 12, hj => cases hj; exact h12
  | 13, hj => cases hj; exact h13
  | 14, hj => cases hj; exact h14
  | 15, hj => cases hj; exact h15
  | 16, hj => cases hj; exact h16
  | 17, hj => cases hj; exact h17
  | 18, hj => cases hj; exact h18
  | 19, hj => cases hj; exact h19
  | j + 20, hj => exact absurd hj (by simp)
theorem load_event20 {W : World} (hgd : o.guard = none) {t : TypeId} {x : Operand} (ho : o.op = .load t x) {ad : Addr} (ha : a.eval x = .pointer (some ad)) (hagg : ∀ w, (isAgg t).run P w = .ok true w) (hsz : ∀ w, (Go.sizeOf t).run P w = .ok 20 w) {v0 v1 v2 v3 v4 v5 v6 v7 v8 v9 v10 v11 v12 v13 v14 v15 v16 v17 v18 v19 : Value}
    (h : wpList P ops Q rest (a.put o.dst (.agg #[v0, v1, v2, v3, v4, v5, v6, v7, v8, v9, v10, v11, v12, v13, v14, v15, v16, v17, v18, v19])) W) (h0 : W.cell? ad = some v0 := by first | (with_reducible assumption) | (apply bk_cell; with_reducible assumption; rfl) | ((try dsimp only); (try simp only [Nat.add_assoc, Nat.reduceAdd]); with_reducible assumption)) (h1 : W.cell? ⟨ad.block, ad.off + 1, none⟩ = some v1 := by first | (with_reducible assumption) | (apply bk_cell; with_reducible assumption; rfl) | ((try dsimp only); (try simp only [Nat.add_assoc, Nat.reduceAdd]); with_reducible assumption)) (h2 : W.cell? ⟨ad.block, ad.off + 2, none⟩ = some v2 := by first | (with_reducible assumption) | (apply bk_cell; with_reducible assumption; rfl) | ((try dsimp only); (try simp only [Nat.add_assoc, Nat.reduceAdd]); with_reducible assumption)) (h3 : W.cell? ⟨ad.block, ad.off + 3, none⟩ = some v3 := by first | (with_reducible assumption) | (apply bk_cell; with_reducible assumption; rfl) | ((try dsimp only); (try simp only [Nat.add_assoc, Nat.reduceAdd]); with_reducible assumption)) (h4 : W.cell? ⟨ad.block, ad.off + 4, none⟩ = some v4 := by first | (with_reducible assumption) | (apply bk_cell; with_reducible assumption; rfl) | ((try dsimp only); (try simp only [Nat.add_assoc, Nat.reduceAdd]); with_reducible assumption)) (h5 : W.cell? ⟨ad.block, ad.off + 5, none⟩ = some v5 := by first | (with_reducible assumption) | (apply bk_cell; with_reducible assumption; rfl) | ((try dsimp only); (try simp only [Nat.add_assoc, Nat.reduceAdd]); with_reducible assumption)) (h6 : W.cell? ⟨ad.block, ad.off + 6, none⟩ = some v6 := by first | (with_reducible assumption) | (apply bk_cell; with_reducible assumption; rfl) | ((try dsimp only); (try simp only [Nat.add_assoc, Nat.reduceAdd]); with_reducible assumption)) (h7 : W.cell? ⟨ad.block, ad.off + 7, none⟩ = some v7 := by first | (with_reducible assumption) | (apply bk_cell; with_reducible assumption; rfl) | ((try dsimp only); (try simp only [Nat.add_assoc, Nat.reduceAdd]); with_reducible assumption)) (h8 : W.cell? ⟨ad.block, ad.off + 8, none⟩ = some v8 := by first | (with_reducible assumption) | (apply bk_cell; with_reducible assumption; rfl) | ((try dsimp only); (try simp only [Nat.add_assoc, Nat.reduceAdd]); with_reducible assumption)) (h9 : W.cell? ⟨ad.block, ad.off + 9, none⟩ = some v9 := by first | (with_reducible assumption) | (apply bk_cell; with_reducible assumption; rfl) | ((try dsimp only); (try simp only [Nat.add_assoc, Nat.reduceAdd]); with_reducible assumption)) (h10 : W.cell? ⟨ad.block, ad.off + 10, none⟩ = some v10 := by first | (with_reducible assumption) | (apply bk_cell; with_reducible assumption; rfl) | ((try dsimp only); (try simp only [Nat.add_assoc, Nat.reduceAdd]); with_reducible assumption)) (h11 : W.cell? ⟨ad.block, ad.off + 11, none⟩ = some v11 := by first | (with_reducible assumption) | (apply bk_cell; with_reducible assumption; rfl) | ((try dsimp only); (try simp only [Nat.add_assoc, Nat.reduceAdd]); with_reducible assumption)) (h12 : W.cell? ⟨ad.block, ad.off + 12, none⟩ = some v12 := by first | (with_reducible assumption) | (apply bk_cell; with_reducible assumption; rfl) | ((try dsimp only); (try simp only [Nat.add_assoc, Nat.reduceAdd]); with_reducible assumption)) (h13 : W.cell? ⟨ad.block, ad.off + 13, none⟩ = some v13 := by first | (with_reducible assumption) | (apply bk_cell; with_reducible assumption; rfl) | ((try dsimp only); (try simp only [Nat.add_assoc, Nat.reduceAdd]); with_reducible assumption)) (h14 : W.cell? ⟨ad.block, ad.off + 14, none⟩ = some v14 := by first | (with_reducible assumption) | (apply bk_cell; with_reducible assumption; rfl) | ((try dsimp only); (try simp only [Nat.add_assoc, Nat.reduceAdd]); with_reducible assumption)) (h15 : W.cell? ⟨ad.block, ad.off + 15, none⟩ = some v15 := by first | (with_reducible assumption) | (apply bk_cell; with_reducible assumption; rfl) | ((try dsimp only); (try simp only [Nat.add_assoc, Nat.reduceAdd]); with_reducible assumption)) (h16 : W.cell? ⟨ad.block, ad.off + 16, none⟩ = some v16 := by first | (with_reducible assumption) | (apply bk_cell; with_reducible assumption; rfl) | ((try dsimp only); (try simp only [Nat.add_assoc, Nat.reduceAdd]); with_reducible assumption)) (h17 : W.cell? ⟨ad.block, ad.off + 17, none⟩ = some v17 := by first | (with_reducible assumption) | (apply bk_cell; with_reducible assumption; rfl) | ((try dsimp only); (try simp only [Nat.add_assoc, Nat.reduceAdd]); with_reducible assumption)) (h18 : W.cell? ⟨ad.block, ad.off + 18, none⟩ = some v18 := by first | (with_reducible assumption) | (apply bk_cell; with_reducible assumption; rfl) | ((try dsimp only); (try simp only [Nat.add_assoc, Nat.reduceAdd]); with_reducible assumption)) (h19 : W.cell? ⟨ad.block, ad.off + 19, none⟩ = some v19 := by first | (with_reducible assumption) | (apply bk_cell; with_reducible assumption; rfl) | ((try dsimp only); (try simp only [Nat.add_assoc, Nat.reduceAdd]); with_reducible assumption)) : wpList P ops Q (o :: rest) a W := by
  refine Kd.event_run hgd (run_load_agg ho ha hagg [v0, v1, v2, v3, v4, v5, v6, v7, v8, v9, v10, v11, v12, v13, v14, v15, v16, v17, v18, v19] hsz fun j v hj => ?_) h
  match j, hj with
  | 0, hj => cases hj; exact h0
  | 1, hj => cases hj; exact h1
  | 2, hj => cases hj; exact h2
  | 3, hj => cases hj; exact h3
  | 4, hj => cases hj; exact h4
  | 5, hj => cases hj; exact h5
  | 6, hj => cases hj; exact h6
  | 7, hj => cases hj; exact h7
  | 8, hj => cases hj; exact h8
  | 9, hj => cases hj; exact h9
  | 10, hj => cases hj; exact h10
  | 11, hj => cases hj; exact h11
  | 12, hj => cases hj; exact h12
  | 13, hj => cases hj; exact h13
  | 14, hj => cases hj; exact h14
  | 15, hj => cases hj; exact h15
  | 16, hj => cases hj; exact h16
  | 17, hj => cases hj; exact h17
  | 18, hj => cases hj; exact h18
  | 19, hj => cases hj; exact h19
  | j + 20, hj => exact absurd hj (by simp)
theorem load_event21 {W : World} (hgd : o.guard = none) {t : TypeId} {x : Operand} (ho : o.op = .load t x) {ad : Addr} (ha : a.eval x = .pointer (some ad)) (hagg : ∀ w, (isAgg t).run P w = .ok true w) (hsz : ∀ w, (Go.sizeOf t).run P w = .ok 21 w) {v0 v1 v2 v3 v4 v5 v6 v7 v8 v9 v10 v11 v12 v13 v14 v15 v16 v17 v18 v19 v20 : Value}
    (h : wpList P ops Q rest (a.put o.dst (.agg #[v0, v1, v2, v3, v4, v5, v6, v7, v8, v9, v10, v11, v12, v13, v14, v15, v16, v17, v18, v19, v20])) W) (h0 : W.cell? ad = some v0 := by first | (with_reducible assumption) | (apply bk_cell; with_reducible assumption; rfl) | ((try dsimp only); (try simp only [Nat.add_assoc, Nat.reduceAdd]); with_reducible assumption)) (h1 : W.cell? ⟨ad.block, ad.off + 1, none⟩ = some v1 := by first | (with_reducible assumption) | (apply bk_cell; with_reducible assumption; rfl) | ((try dsimp only); (try simp only [Nat.add_assoc, Nat.reduceAdd]); with_reducible assumption)) (h2 : W.cell? ⟨ad.block, ad.off + 2, none⟩ = some v2 := by first | (with_reducible assumption) | (apply bk_cell; with_reducible assumption; rfl) | ((try dsimp only); (try simp only [Nat.add_assoc, Nat.reduceAdd]); with_reducible assumption)) (h3 : W.cell? ⟨ad.block, ad.off + 3, none⟩ = some v3 := by first | (with_reducible assumption) | (apply bk_cell; with_reducible assumption; rfl) | ((try dsimp only); (try simp only [Nat.add_assoc, Nat.reduceAdd]); with_reducible assumption)) (h4 : W.cell? ⟨ad.block, ad.off + 4, none⟩ = some v4 := by first | (with_reducible assumption) | (apply bk_cell; with_reducible assumption; rfl) | ((try dsimp only); (try simp only [Nat.add_assoc, Nat.reduceAdd]); with_reducible assumption)) (h5 : W.cell? ⟨ad.block, ad.off + 5, none⟩ = some v5 := by first | (with_reducible assumption) | (apply bk_cell; with_reducible assumption; rfl) | ((try dsimp only); (try simp only [Nat.add_assoc, Nat.reduceAdd]); with_reducible assumption)) (h6 : W.cell? ⟨ad.block, ad.off + 6, none⟩ = some v6 := by first | (with_reducible assumption) | (apply bk_cell; with_reducible assumption; rfl) | ((try dsimp only); (try simp only [Nat.add_assoc, Nat.reduceAdd]); with_reducible assumption)) (h7 : W.cell? ⟨ad.block, ad.off + 7, none⟩ = some v7 := by first | (with_reducible assumption) | (apply bk_cell; with_reducible assumption; rfl) | ((try dsimp only); (try simp only [Nat.add_assoc, Nat.reduceAdd]); with_reducible assumption)) (h8 : W.cell? ⟨ad.block, ad.off + 8, none⟩ = some v8 := by first | (with_reducible assumption) | (apply bk_cell; with_reducible assumption; rfl) | ((try dsimp only); (try simp only [Nat.add_assoc, Nat.reduceAdd]); with_reducible assumption)) (h9 : W.cell? ⟨ad.block, ad.off + 9, none⟩ = some v9 := by first | (with_reducible assumption) | (apply bk_cell; with_reducible assumption; rfl) | ((try dsimp only); (try simp only [Nat.add_assoc, Nat.reduceAdd]); with_reducible assumption)) (h10 : W.cell? ⟨ad.block, ad.off + 10, none⟩ = some v10 := by first | (with_reducible assumption) | (apply bk_cell; with_reducible assumption; rfl) | ((try dsimp only); (try simp only [Nat.add_assoc, Nat.reduceAdd]); with_reducible assumption)) (h11 : W.cell? ⟨ad.block, ad.off + 11, none⟩ = some v11 := by first | (with_reducible assumption) | (apply bk_cell; with_reducible assumption; rfl) | ((try dsimp only); (try simp only [Nat.add_assoc, Nat.reduceAdd]); with_reducible assumption)) (h12 : W.cell? ⟨ad.block, ad.off + 12, none⟩ = some v12 := by first | (with_reducible assumption) | (apply bk_cell; with_reducible assumption; rfl) | ((try dsimp only); (try simp only [Nat.add_assoc, Nat.reduceAdd]); with_reducible assumption)) (h13 : W.cell? ⟨ad.block, ad.off + 13, none⟩ = some v13 := by first | (with_reducible assumption) | (apply bk_cell; with_reducible assumption; rfl) | ((try dsimp only); (try simp only [Nat.add_assoc, Nat.reduceAdd]); with_reducible assumption)) (h14 : W.cell? ⟨ad.block, ad.off + 14, none⟩ = some v14 := by first | (with_reducible assumption) | (apply bk_cell; with_reducible assumption; rfl) | ((try dsimp only); (try simp only [Nat.add_assoc, Nat.reduceAdd]); with_reducible assumption)) (h15 : W.cell? ⟨ad.block, ad.off + 15, none⟩ = some v15 := by first | (with_reducible assumption) | (apply bk_cell; with_reducible assumption; rfl) | ((try dsimp only); (try simp only [Nat.add_assoc, Nat.reduceAdd]); with_reducible assumption)) (h16 : W.cell? ⟨ad.block, ad.off + 16, none⟩ = some v16 := by first | (with_reducible assumption) | (apply bk_cell; with_reducible assumption; rfl) | ((try dsimp only); (try simp only [Nat.add_assoc, Nat.reduceAdd]); with_reducible assumption)) (h17 : W.cell? ⟨ad.block, ad.off + 17, none⟩ = some v17 := by first | (with_reducible assumption) | (apply bk_cell; with_reducible assumption; rfl) | ((try dsimp only); (try simp only [Nat.add_assoc, Nat.reduceAdd]); with_reducible assumption)) (h18 : W.cell? ⟨ad.block, ad.off + 18, none⟩ = some v18 := by first | (with_reducible assumption) | (apply bk_cell; with_reducible assumption; rfl) | ((try dsimp only); (try simp only [Nat.add_assoc, Nat.reduceAdd]); with_reducible assumption)) (h19 : W.cell? ⟨ad.block, ad.off + 19, none⟩ = some v19 := by first | (with_reducible assumption) | (apply bk_cell; with_reducible assumption; rfl) | ((try dsimp only); (try simp only [Nat.add_assoc, Nat.reduceAdd]); with_reducible assumption)) (h20 : W.cell? ⟨ad.block, ad.off + 20, none⟩ = some v20 := by first | (with_reducible assumption) | (apply bk_cell; with_reducible assumption; rfl) | ((try dsimp only); (try simp only [Nat.add_assoc, Nat.reduceAdd]); with_reducible assumption)) : wpList P ops Q (o :: rest) a W := by
  refine Kd.event_run hgd (run_load_agg ho ha hagg [v0, v1, v2, v3, v4, v5, v6, v7, v8, v9, v10, v11, v12, v13, v14, v15, v16, v17, v18, v19, v20] hsz fun j v hj => ?_) h
  match j, hj with
  | 0, hj => cases hj; exact h0
  | 1, hj => cases hj; exact h1
  | 2, hj => cases hj; exact h2
  | 3, hj => cases hj; exact h3
  | 4, hj => cases hj; exact h4
  | 5, hj => cases hj; exact h5
  | 6, hj => cases hj; exact h6
  | 7, hj => cases hj; exact h7
  | 8, hj => cases hj; exact h8
  | 9, hj => cases hj; exact h9
  | 10, hj => cases hj; exact h10
  | 11, hj => cases hj; exact h11
  | 12, hj => cases hj; exact h12
  | 13, hj => cases hj; exact h13
  | 14, hj => cases hj; exact h14
  | 15, hj => cases hj; exact h15
  | 16, hj => cases hj; exact h16
  | 17, hj => cases hj; exact h17
  | 18, hj => cases hj; exact h18
  | 19, hj => cases hj; exact h19
  | 20, hj => cases hj; exact h20
  | j + 21, hj => exact absurd hj (by simp)
theorem load_event27 {W : World} (hgd : o.guard = none) {t : TypeId} {x : Operand} (ho : o.op = .load t x) {ad : Addr} (ha : a.eval x = .pointer (some ad)) (hagg : ∀ w, (isAgg t).run P w = .ok true w) (hsz : ∀ w, (Go.sizeOf t).run P w = .ok 27 w) {v0 v1 v2 v3 v4 v5 v6 v7 v8 v9 v10 v11 v12 v13 v14 v15 v16 v17 v18 v19 v20 v21 v22 v23 v24 v25 v26 : Value}
    (h : wpList P ops Q rest (a.put o.dst (.agg #[v0, v1, v2, v3, v4, v5, v6, v7, v8, v9, v10, v11, v12, v13, v14, v15, v16, v17, v18, v19, v20, v21, v22, v23, v24, v25, v26])) W) (h0 : W.cell? ad = some v0 := by first | (with_reducible assumption) | (apply bk_cell; with_reducible assumption; rfl) | ((try dsimp only); (try simp only [Nat.add_assoc, Nat.reduceAdd]); with_reducible assumption)) (h1 : W.cell? ⟨ad.block, ad.off + 1, none⟩ = some v1 := by first | (with_reducible assumption) | (apply bk_cell; with_reducible assumption; rfl) | ((try dsimp only); (try simp only [Nat.add_assoc, Nat.reduceAdd]); with_reducible assumption)) (h2 : W.cell? ⟨ad.block, ad.off + 2, none⟩ = some v2 := by first | (with_reducible assumption) | (apply bk_cell; with_reducible assumption; rfl) | ((try dsimp only); (try simp only [Nat.add_assoc, Nat.reduceAdd]); with_reducible assumption)) (h3 : W.cell? ⟨ad.block, ad.off + 3, none⟩ = some v3 := by first | (with_reducible assumption) | (apply bk_cell; with_reducible assumption; rfl) | ((try dsimp only); (try simp only [Nat.add_assoc, Nat.reduceAdd]); with_reducible assumption)) (h4 : W.cell? ⟨ad.block, ad.off + 4, none⟩ = some v4 := by first | (with_reducible assumption) | (apply bk_cell; with_reducible assumption; rfl) | ((try dsimp only); (try simp only [Nat.add_assoc, Nat.reduceAdd]); with_reducible assumption)) (h5 : W.cell? ⟨ad.block, ad.off + 5, none⟩ = some v5 := by first | (with_reducible assumption) | (apply bk_cell; with_reducible assumption; rfl) | ((try dsimp only); (try simp only [Nat.add_assoc, Nat.reduceAdd]); with_reducible assumption)) (h6 : W.cell? ⟨ad.block, ad.off + 6, none⟩ = some v6 := by first | (with_reducible assumption) | (apply bk_cell; with_reducible assumption; rfl) | ((try dsimp only); (try simp only [Nat.add_assoc, Nat.reduceAdd]); with_reducible assumption)) (h7 : W.cell? ⟨ad.block, ad.off + 7, none⟩ = some v7 := by first | (with_reducible assumption) | (apply bk_cell; with_reducible assumption; rfl) | ((try dsimp only); (try simp only [Nat.add_assoc, Nat.reduceAdd]); with_reducible assumption)) (h8 : W.cell? ⟨ad.block, ad.off + 8, none⟩ = some v8 := by first | (with_reducible assumption) | (apply bk_cell; with_reducible assumption; rfl) | ((try dsimp only); (try simp only [Nat.add_assoc, Nat.reduceAdd]); with_reducible assumption)) (h9 : W.cell? ⟨ad.block, ad.off + 9, none⟩ = some v9 := by first | (with_reducible assumption) | (apply bk_cell; with_reducible assumption; rfl) | ((try dsimp only); (try simp only [Nat.add_assoc, Nat.reduceAdd]); with_reducible assumption)) (h10 : W.cell? ⟨ad.block, ad.off + 10, none⟩ = some v10 := by first | (with_reducible assumption) | (apply bk_cell; with_reducible assumption; rfl) | ((try dsimp only); (try simp only [Nat.add_assoc, Nat.reduceAdd]); with_reducible assumption)) (h11 : W.cell? ⟨ad.block, ad.off + 11, none⟩ = some v11 := by first | (with_reducible assumption) | (apply bk_cell; with_reducible assumption; rfl) | ((try dsimp only); (try simp only [Nat.add_assoc, Nat.reduceAdd]); with_reducible assumption)) (h12 : W.cell? ⟨ad.block, ad.off + 12, none⟩ = some v12 := by first | (with_reducible assumption) | (apply bk_cell; with_reducible assumption; rfl) | ((try dsimp only); (try simp only [Nat.add_assoc, Nat.reduceAdd]); with_reducible assumption)) (h13 : W.cell? ⟨ad.block, ad.off + 13, none⟩ = some v13 := by first | (with_reducible assumption) | (apply bk_cell; with_reducible assumption; rfl) | ((try dsimp only); (try simp only [Nat.add_assoc, Nat.reduceAdd]); with_reducible assumption)) (h14 : W.cell? ⟨ad.block, ad.off + 14, none⟩ = some v14 := by first | (with_reducible assumption) | (apply bk_cell; with_reducible assumption; rfl) | ((try dsimp only); (try simp only [Nat.add_assoc, Nat.reduceAdd]); with_reducible assumption)) (h15 : W.cell? ⟨ad.block, ad.off + 15, none⟩ = some v15 := by first | (with_reducible assumption) | (apply bk_cell; with_reducible assumption; rfl) | ((try dsimp only); (try simp only [Nat.add_assoc, Nat.reduceAdd]); with_reducible assumption)) (h16 : W.cell? ⟨ad.block, ad.off + 16, none⟩ = some v16 := by first | (with_reducible assumption) | (apply bk_cell; with_reducible assumption; rfl) | ((try dsimp only); (try simp only [Nat.add_assoc, Nat.reduceAdd]); with_reducible assumption)) (h17 : W.cell? ⟨ad.block, ad.off + 17, none⟩ = some v17 := by first | (with_reducible assumption) | (apply bk_cell; with_reducible assumption; rfl) | ((try dsimp only); (try simp only [Nat.add_assoc, Nat.reduceAdd]); with_reducible assumption)) (h18 : W.cell? ⟨ad.block, ad.off + 18, none⟩ = some v18 := by first | (with_reducible assumption) | (apply bk_cell; with_reducible assumption; rfl) | ((try dsimp only); (try simp only [Nat.add_assoc, Nat.reduceAdd]); with_reducible assumption)) (h19 : W.cell? ⟨ad.block, ad.off + 19, none⟩ = some v19 := by first | (with_reducible assumption) | (apply bk_cell; with_reducible assumption; rfl) | ((try dsimp only); (try simp only [Nat.add_assoc, Nat.reduceAdd]); with_reducible assumption)) (h20 : W.cell? ⟨ad.block, ad.off + 20, none⟩ = some v20 := by first | (with_reducible assumption) | (apply bk_cell; with_reducible assumption; rfl) | ((try dsimp only); (try simp only [Nat.add_assoc, Nat.reduceAdd]); with_reducible assumption)) (h21 : W.cell? ⟨ad.block, ad.off + 21, none⟩ = some v21 := by first | (with_reducible assumption) | (apply bk_cell; with_reducible assumption; rfl) | ((try dsimp only); (try simp only [Nat.add_assoc, Nat.reduceAdd]); with_reducible assumption)) (h22 : W.cell? ⟨ad.block, ad.off + 22, none⟩ = some v22 := by first | (with_reducible assumption) | (apply bk_cell; with_reducible assumption; rfl) | ((try dsimp only); (try simp only [Nat.add_assoc, Nat.reduceAdd]); with_reducible assumption)) (h23 : W.cell? ⟨ad.block, ad.off + 23, none⟩ = some v23 := by first | (with_reducible assumption) | (apply bk_cell; with_reducible assumption; rfl) | ((try dsimp only); (try simp only [Nat.add_assoc, Nat.reduceAdd]); with_reducible assumption)) (h24 : W.cell? ⟨ad.block, ad.off + 24, none⟩ = some v24 := by first | (with_reducible assumption) | (apply bk_cell; with_reducible assumption; rfl) | ((try dsimp only); (try simp only [Nat.add_assoc, Nat.reduceAdd]); with_reducible assumption)) (h25 : W.cell? ⟨ad.block, ad.off + 25, none⟩ = some v25 := by first | (with_reducible assumption) | (apply bk_cell; with_reducible assumption; rfl) | ((try dsimp only); (try simp only [Nat.add_assoc, Nat.reduceAdd]); with_reducible assumption)) (h26 : W.cell? ⟨ad.block, ad.off + 26, none⟩ = some v26 := by first | (with_reducible assumption) | (apply bk_cell; with_reducible assumption; rfl) | ((try dsimp only); (try simp only [Nat.add_assoc, Nat.reduceAdd]); with_reducible assumption)) : wpList P ops Q (o :: rest) a W := by
  refine Kd.event_run hgd (run_load_agg ho ha hagg [v0, v1, v2, v3, v4, v5, v6, v7, v8, v9, v10, v11, v12, v13, v14, v15, v16, v17, v18, v19, v20, v21, v22, v23, v24, v25, v26] hsz fun j v hj => ?_) h
  match j, hj with
  | 0, hj => cases hj; exact h0
  | 1, hj => cases hj; exact h1
  | 2, hj => cases hj; exact h2
  | 3, hj => cases hj; exact h3
  | 4, hj => cases hj; exact h4
  | 5, hj => cases hj; exact h5
  | 6, hj => cases hj; exact h6
  | 7, hj => cases hj; exact h7
  | 8, hj => cases hj; exact h8
  | 9, hj => cases hj; exact h9
  | 10, hj => cases hj; exact h10
  | 11, hj => cases hj; exact h11
  | 12, hj => cases hj; exact h12
  | 13, hj => cases hj; exact h13
  | 14, hj => cases hj; exact h14
  | 15, hj => cases hj; exact h15
  | 16, hj => cases hj; exact h16
  | 17, hj => cases hj; exact h17
  | 18, hj => cases hj; exact h18
  | 19, hj => cases hj; exact h19
  | 20, hj => cases hj; exact h20
  | 21, hj => cases hj; exact h21
  | 22, hj => cases hj; exact h22
  | 23, hj => cases hj; exact h23
  | 24, hj => cases hj; exact h24
  | 25, hj => cases hj; exact h25
  | 26, hj => cases hj; exact h26
  | j + 27, hj => exact absurd hj (by simp)
theorem load_event30 {W : World} (hgd : o.guard = none) {t : TypeId} {x : Operand} (ho : o.op = .load t x) {ad : Addr} (ha : a.eval x = .pointer (some ad)) (hagg : ∀ w, (isAgg t).run P w = .ok true w) (hsz : ∀ w, (Go.sizeOf t).run P w = .ok 30 w) {v0 v1 v2 v3 v4 v5 v6 v7 v8 v9 v10 v11 v12 v13 v14 v15 v16 v17 v18 v19 v20 v21 v22 v23 v24 v25 v26 v27 v28 v29 : Value}
    (h : wpList P ops Q rest (a.put o.dst (.agg #[v0, v1, v2, v3, v4, v5, v6, v7, v8, v9, v10, v11, v12, v13, v14, v15, v16, v17, v18, v19, v20, v21, v22, v23, v24, v25, v26, v27, v28, v29])) W) (h0 : W.cell? ad = some v0 := by first | (with_reducible assumption) | (apply bk_cell; with_reducible assumption; rfl) | ((try dsimp only); (try simp only [Nat.add_assoc, Nat.reduceAdd]); with_reducible assumption)) (h1 : W.cell? ⟨ad.block, ad.off + 1, none⟩ = some v1 := by first | (with_reducible assumption) | (apply bk_cell; with_reducible assumption; rfl) | ((try dsimp only); (try simp only [Nat.add_assoc, Nat.reduceAdd]); with_reducible assumption)) (h2 : W.cell? ⟨ad.block, ad.off + 2, none⟩ = some v2 := by first | (with_reducible assumption) | (apply bk_cell; with_reducible assumption; rfl) | ((try dsimp only); (try simp only [Nat.add_assoc, Nat.reduceAdd]); with_reducible assumption)) (h3 : W.cell? ⟨ad.block, ad.off + 3, none⟩ = some v3 := by first | (with_reducible assumption) | (apply bk_cell; with_reducible assumption; rfl) | ((try dsimp only); (try simp only [Nat.add_assoc, Nat.reduceAdd]); with_reducible assumption)) (h4 : W.cell? ⟨ad.block, ad.off + 4, none⟩ = some v4 := by first | (with_reducible assumption) | (apply bk_cell; with_reducible assumption; rfl) | ((try dsimp only); (try simp only [Nat.add_assoc, Nat.reduceAdd]); with_reducible assumption)) (h5 : W.cell? ⟨ad.block, ad.off + 5, none⟩ = some v5 := by first | (with_reducible assumption) | (apply bk_cell; with_reducible assumption; rfl) | ((try dsimp only); (try simp only [Nat.add_assoc, Nat.reduceAdd]); with_reducible assumption)) (h6 : W.cell? ⟨ad.block, ad.off + 6, none⟩ = some v6 := by first | (with_reducible assumption) | (apply bk_cell; with_reducible assumption; rfl) | ((try dsimp only); (try simp only [Nat.add_assoc, Nat.reduceAdd]); with_reducible assumption)) (h7 : W.cell? ⟨ad.block, ad.off + 7, none⟩ = some v7 := by first | (with_reducible assumption) | (apply bk_cell; with_reducible assumption; rfl) | ((try dsimp only); (try simp only [Nat.add_assoc, Nat.reduceAdd]); with_reducible assumption)) (h8 : W.cell? ⟨ad.block, ad.off + 8, none⟩ = some v8 := by first | (with_reducible assumption) | (apply bk_cell; with_reducible assumption; rfl) | ((try dsimp only); (try simp only [Nat.add_assoc, Nat.reduceAdd]); with_reducible assumption)) (h9 : W.cell? ⟨ad.block, ad.off + 9, none⟩ = some v9 := by first | (with_reducible assumption) | (apply bk_cell; with_reducible assumption; rfl) | ((try dsimp only); (try simp only [Nat.add_assoc, Nat.reduceAdd]); with_reducible assumption)) (h10 : W.cell? ⟨ad.block, ad.off + 10, none⟩ = some v10 := by first | (with_reducible assumption) | (apply bk_cell; with_reducible assumption; rfl) | ((try dsimp only); (try simp only [Nat.add_assoc, Nat.reduceAdd]); with_reducible assumption)) (h11 : W.cell? ⟨ad.block, ad.off + 11, none⟩ = some v11 := by first | (with_reducible assumption) | (apply bk_cell; with_reducible assumption; rfl) | ((try dsimp only); (try simp only [Nat.add_assoc, Nat.reduceAdd]); with_reducible assumption)) (h12 : W.cell? ⟨ad.block, ad.off + 12, none⟩ = some v12 := by first | (with_reducible assumption) | (apply bk_cell; with_reducible assumption; rfl) | ((try dsimp only); (try simp only [Nat.add_assoc, Nat.reduceAdd]); with_reducible assumption)) (h13 : W.cell? ⟨ad.block, ad.off + 13, none⟩ = some v13 := by first | (with_reducible assumption) | (apply bk_cell; with_reducible assumption; rfl) | ((try dsimp only); (try simp only [Nat.add_assoc, Nat.reduceAdd]); with_reducible assumption)) (h14 : W.cell? ⟨ad.block, ad.off + 14, none⟩ = some v14 := by first | (with_reducible assumption) | (apply bk_cell; with_reducible assumption; rfl) | ((try dsimp only); (try simp only [Nat.add_assoc, Nat.reduceAdd]); with_reducible assumption)) (h15 : W.cell? ⟨ad.block, ad.off + 15, none⟩ = some v15 := by first | (with_reducible assumption) | (apply bk_cell; with_reducible assumption; rfl) | ((try dsimp only); (try simp only [Nat.add_assoc, Nat.reduceAdd]); with_reducible assumption)) (h16 : W.cell? ⟨ad.block, ad.off + 16, none⟩ = some v16 := by first | (with_reducible assumption) | (apply bk_cell; with_reducible assumption; rfl) | ((try dsimp only); (try simp only [Nat.add_assoc, Nat.reduceAdd]); with_reducible assumption)) (h17 : W.cell? ⟨ad.block, ad.off + 17, none⟩ = some v17 := by first | (with_reducible assumption) | (apply bk_cell; with_reducible assumption; rfl) | ((try dsimp only); (try simp only [Nat.add_assoc, Nat.reduceAdd]); with_reducible assumption)) (h18 : W.cell? ⟨ad.block, ad.off + 18, none⟩ = some v18 := by first | (with_reducible assumption) | (apply bk_cell; with_reducible assumption; rfl) | ((try dsimp only); (try simp only [Nat.add_assoc, Nat.reduceAdd]); with_reducible assumption)) (h19 : W.cell? ⟨ad.block, ad.off + 19, none⟩ = some v19 := by first | (with_reducible assumption) | (apply bk_cell; with_reducible assumption; rfl) | ((try dsimp only); (try simp only [Nat.add_assoc, Nat.reduceAdd]); with_reducible assumption)) (h20 : W.cell? ⟨ad.block, ad.off + 20, none⟩ = some v20 := by first | (with_reducible assumption) | (apply bk_cell; with_reducible assumption; rfl) | ((try dsimp only); (try simp only [Nat.add_assoc, Nat.reduceAdd]); with_reducible assumption)) (h21 : W.cell? ⟨ad.block, ad.off + 21, none⟩ = some v21 := by first | (with_reducible assumption) | (apply bk_cell; with_reducible assumption; rfl) | ((try dsimp only); (try simp only [Nat.add_assoc, Nat.reduceAdd]); with_reducible assumption)) (h22 : W.cell? ⟨ad.block, ad.off + 22, none⟩ = some v22 := by first | (with_reducible assumption) | (apply bk_cell; with_reducible assumption; rfl) | ((try dsimp only); (try simp only [Nat.add_assoc, Nat.reduceAdd]); with_reducible assumption)) (h23 : W.cell? ⟨ad.block, ad.off + 23, none⟩ = some v23 := by first | (with_reducible assumption) | (apply bk_cell; with_reducible assumption; rfl) | ((try dsimp only); (try simp only [Nat.add_assoc, Nat.reduceAdd]); with_reducible assumption)) (h24 : W.cell? ⟨ad.block, ad.off + 24, none⟩ = some v24 := by first | (with_reducible assumption) | (apply bk_cell; with_reducible assumption; rfl) | ((try dsimp only); (try simp only [Nat.add_assoc, Nat.reduceAdd]); with_reducible assumption)) (h25 : W.cell? ⟨ad.block, ad.off + 25, none⟩ = some v25 := by first | (with_reducible assumption) | (apply bk_cell; with_reducible assumption; rfl) | ((try dsimp only); (try simp only [Nat.add_assoc, Nat.reduceAdd]); with_reducible assumption)) (h26 : W.cell? ⟨ad.block, ad.off + 26, none⟩ = some v26 := by first | (with_reducible assumption) | (apply bk_cell; with_reducible assumption; rfl) | ((try dsimp only); (try simp only [Nat.add_assoc, Nat.reduceAdd]); with_reducible assumption)) (h27 : W.cell? ⟨ad.block, ad.off + 27, none⟩ = some v27 := by first | (with_reducible assumption) | (apply bk_cell; with_reducible assumption; rfl) | ((try dsimp only); (try simp only [Nat.add_assoc, Nat.reduceAdd]); with_reducible assumption)) (h28 : W.cell? ⟨ad.block, ad.off + 28, none⟩ = some v28 := by first | (with_reducible assumption) | (apply bk_cell; with_reducible assumption; rfl) | ((try dsimp only); (try simp only [Nat.add_assoc, Nat.reduceAdd]); with_reducible assumption)) (h29 : W.cell? ⟨ad.block, ad.off + 29, none⟩ = some v29 := by first | (with_reducible assumption) | (apply bk_cell; with_reducible assumption; rfl) | ((try dsimp only); (try simp only [Nat.add_assoc, Nat.reduceAdd]); with_reducible assumption)) : wpList P ops Q (o :: rest) a W := by
  refine Kd.event_run hgd (run_load_agg ho ha hagg [v0, v1, v2, v3, v4, v5, v6, v7, v8, v9, v10, v11, v12, v13, v14, v15, v16, v17, v18, v19, v20, v21, v22, v23, v24, v25, v26, v27, v28, v29] hsz fun j v hj => ?_) h
  match j, hj with
  | 0, hj => cases hj; exact h0
  | 1, hj => cases hj; exact h1
  | 2, hj => cases hj; exact h2
  | 3, hj => cases hj; exact h3
  | 4, hj => cases hj; exact h4
  | 5, hj => cases hj; exact h5
  | 6, hj => cases hj; exact h6
  | 7, hj => cases hj; exact h7
  | 8, hj => cases hj; exact h8
  | 9, hj => cases hj; exact h9
  | 10, hj => cases hj; exact h10
  | 11, hj => cases hj; exact h11
  | 12, hj => cases hj; exact h12
  | 13, hj => cases hj; exact h13
  | 14, hj => cases hj; exact h14
  | 15, hj => cases hj; exact h15
  | 16, hj => cases hj; exact h16
  | 17, hj => cases hj; exact h17
  | 18, hj => cases hj; exact h18
  | 19, hj => cases hj; exact h19
  | 20, hj => cases hj; exact h20
  | 21, hj => cases hj; exact h21
  | 22, hj => cases hj; exact h22
  | 23, hj => cases hj; exact h23
  | 24, hj => cases hj; exact h24
  | 25, hj => cases hj; exact h25
  | 26, hj => cases hj; exact h26
  | 27, hj => cases hj; exact h27
  | 28, hj => cases hj; exact h28
  | 29, hj => cases hj; exact h29
  | j + 30, hj => exact absurd hj (by simp)
end
end Go.Proofs.YtnafcjaddnkioaaGreatDoor.PLooks
end
section
set_option linter.unusedVariables false
set_option linter.unusedSimpArgs false
namespace Go.Proofs.YtnafcjaddnkioaaGreatDoor.PLooks
open Go.RowKit Go.Proofs.YtnafcjaddnkioaaGreatDoorW.PrintWords
section
variable {P : Program} {ops : Array Oper} {rest : List Oper} {o : Oper} {a : Act} {Q : Exit → Act → World → Prop}
theorem store_evt {W w1 : World} (hgd : o.guard = none) (hN : o.dst = none) (hrun : (execOp a.eval o).run P W = .ok .skip w1) (h : wpList P ops Q rest a w1) : wpList P ops Q (o :: rest) a W := by
  refine wpList_plain hgd fun K hK => ?_
  unfold Oper.wp
  rw [hrun]
  show K (a.put o.dst undef) w1
  rw [hN]
  exact hK _ _ h
theorem run_store_agg {W : World} {t : TypeId} {p v : Operand} (ho : o.op = .store t p v) {g : Nat} (hp : a.eval p = .pointer (some ⟨g, 0, none⟩)) (vs : List Value) (hv : a.eval v = .agg vs.toArray)
    (hsz : ∀ w, (Go.sizeOf t).run P w = .ok vs.length w) (hc : ∀ j, j < vs.length → (W.cell? ⟨g, 0 + j, none⟩).isSome = true) (hf : ∀ j, j < vs.length → W.frozen? ⟨g, 0 + 0 + j, none⟩ = false) (h1 : ∀ u ∈ vs, u.oneCell' = true) : (execOp a.eval o).run P W = .ok .skip (W.setCells g 0 vs) := by
  have h := run_storeCells_cells (P := P) g 0 vs 0 W hc hf h1
  have h2 : (Instr.sureAddr (.pointer (some ⟨g, 0, none⟩))).run P W = .ok ⟨g, 0, none⟩ W := rfl
  simp only [Nat.add_zero] at h
  unfold execOp
  simp [ho, hp, hv, Sem.run_bind, Instr.storeAt, storeVar, hsz, h, h2, Result.andThen, Value.cells]
theorem store_event21 {W : World} (hgd : o.guard = none) {t : TypeId} {p : Operand} {v : Operand} (ho : o.op = .store t p v) (hN : o.dst = none) {g : Nat} (hp : a.eval p = .pointer (some ⟨g, 0, none⟩)) {v0 v1 v2 v3 v4 v5 v6 v7 v8 v9 v10 v11 v12 v13 v14 v15 v16 v17 v18 v19 v20 u0 u1 u2 u3 u4 u5 u6 u7 u8 u9 u10 u11 u12 u13 u14 u15 u16 u17 u18 u19 u20 : Value} (hv : a.eval v = .agg #[v0, v1, v2, v3, v4, v5, v6, v7, v8, v9, v10, v11, v12, v13, v14, v15, v16, v17, v18, v19, v20]) (hsz : ∀ w, (Go.sizeOf t).run P w = .ok 21 w)
    (h : wpList P ops Q rest a (((((((((((((((((((((W.setCell ⟨g, 0, none⟩ v0).setCell ⟨g, 1, none⟩ v1).setCell ⟨g, 2, none⟩ v2).setCell ⟨g, 3, none⟩ v3).setCell ⟨g, 4, none⟩ v4).setCell ⟨g, 5, none⟩ v5).setCell ⟨g, 6, none⟩ v6).setCell ⟨g, 7, none⟩ v7).setCell ⟨g, 8, none⟩ v8).setCell ⟨g, 9, none⟩ v9).setCell ⟨g, 10, none⟩ v10).setCell ⟨g, 11, none⟩ v11).setCell ⟨g, 12, none⟩ v12).setCell ⟨g, 13, none⟩ v13).setCell ⟨g, 14, none⟩ v14).setCell ⟨g, 15, none⟩ v15).setCell ⟨g, 16, none⟩ v16).setCell ⟨g, 17, none⟩ v17).setCell ⟨g, 18, none⟩ v18).setCell ⟨g, 19, none⟩ v19).setCell ⟨g, 20, none⟩ v20)) (c0 : W.cell? ⟨g, 0, none⟩ = some u0 := by with_reducible assumption) (f0 : W.frozen? ⟨g, 0, none⟩ = false := by with_reducible assumption) (o0 : v0.oneCell' = true := by rfl) (c1 : W.cell? ⟨g, 1, none⟩ = some u1 := by with_reducible assumption) (f1 : W.frozen? ⟨g, 1, none⟩ = false := by with_reducible assumption) (o1 : v1.oneCell' = true := by rfl) (c2 : W.cell? ⟨g, 2, none⟩ = some u2 := by with_reducible assumption) (f2 : W.frozen? ⟨g, 2, none⟩ = false := by with_reducible assumption) (o2 : v2.oneCell' = true := by rfl) (c3 : W.cell? ⟨g, 3, none⟩ = some u3 := by with_reducible assumption) (f3 : W.frozen? ⟨g, 3, none⟩ = false := by with_reducible assumption) (o3 : v3.oneCell' = true := by rfl) (c4 : W.cell? ⟨g, 4, none⟩ = some u4 := by with_reducible assumption) (f4 : W.frozen? ⟨g, 4, none⟩ = false := by with_reducible assumption) (o4 : v4.oneCell' = true := by rfl) (c5 : W.cell? ⟨g, 5, none⟩ = some u5 := by with_reducible assumption) (f5 : W.frozen? ⟨g, 5, none⟩ = false := by with_reducible assumption) (o5 : v5.oneCell' = true := by rfl) (c6 : W.cell? ⟨g, 6, none⟩ = some u6 := by with_reducible assumption) (f6 : W.frozen? ⟨g, 6, none⟩ = false := by with_reducible assumption) (o6 : v6.oneCell' = true := by rfl) (c7 : W.cell? ⟨g, 7, none⟩ = some u7 := by with_reducible assumption) (f7 : W.frozen? ⟨g, 7, none⟩ = false := by with_reducible assumption) (o7 : v7.oneCell' = true := by rfl) (c8 : W.cell? ⟨g, 8, none⟩ = some u8 := by with_reducible assumption) (f8 : W.frozen? ⟨g, 8, none⟩ = false := by with_reducible assumption) (o8 : v8.oneCell' = true := by rfl) (c9 : W.cell? ⟨g, 9, none⟩ = some u9 := by with_reducible assumption) (f9 : W.frozen? ⟨g, 9, none⟩ = false := by with_reducible assumption) (o9 : v9.oneCell' = true := by rfl) (c10 : W.cell? ⟨g, 10, none⟩ = some u10 := by with_reducible assumption) (f10 : W.frozen? ⟨g, 10, none⟩ = false := by with_reducible assumption) (o10 : v10.oneCell' = true := by rfl) (c11 : W.cell? ⟨g, 11, none⟩ = some u11 := by with_reducible assumption) (f11 : W.frozen? ⟨g, 11, none⟩ = false := by with_reducible assumption) (o11 : v11.oneCell' = true := by rfl) (c12 : W.cell? ⟨g, 12, none⟩ = some u12 := by with_reducible assumption) (f12 : W.frozen? ⟨g, 12, none⟩ = false := by with_reducible assumption) (o12 : v12.oneCell' = true := by rfl) (c13 : W.cell? ⟨g, 13, none⟩ = some u13 := by with_reducible assumption) (f13 : W.frozen? ⟨g, 13, none⟩ = false := by with_reducible assumption) (o13 : v13.oneCell' = true := by rfl) (c14 : W.cell? ⟨g, 14, none⟩ = some u14 := by with_reducible assumption) (f14 : W.frozen? ⟨g, 14, none⟩ = false := by with_reducible assumption) (o14 : v14.oneCell' = true := by rfl) (c15 : W.cell? ⟨g, 15, none⟩ = some u15 := by with_reducible assumption) (f15 : W.frozen? ⟨g, 15, none⟩ = false := by with_reducible assumption) (o15 : v15.oneCell' = true := by rfl) (c16 : W.cell? ⟨g, 16, none⟩ = some u16 := by with_reducible assumption) (f16 : W.frozen? ⟨g, 16, none⟩ = false := by with_reducible assumption) (o16 : v16.oneCell' = true := by rfl) (c17 : W.cell? ⟨g, 17, none⟩ = some u17 := by with_reducible assumption) (f17 : W.frozen? ⟨g, 17, none⟩ = false := by with_reducible assumption) (o17 : v17.oneCell' = true := by rfl) (c18 : W.cell? ⟨g, 18, none⟩ = some u18 := by with_reducible assumption) (f18 : W.frozen? ⟨g, 18, none⟩ = false := by with_reducible assumption) (o18 : v18.oneCell' = true := by rfl) (c19 : W.cell? ⟨g, 19, none⟩ = some u19 := by with_reducible assumption) (f19 : W.frozen? ⟨g, 19, none⟩ = false := by with_reducible assumption) (o19 : v19.oneCell' = true := by rfl) (c20 : W.cell? ⟨g, 20, none⟩ = some u20 := by with_reducible assumption) (f20 : W.frozen? ⟨g, 20, none⟩ = false := by with_reducible assumption) (o20 : v20.oneCell' = true := by rfl) : wpList P ops Q (o :: rest) a W := by
  refine store_evt hgd hN (run_store_agg ho hp [v0, v1, v2, v3, v4, v5, v6, v7, v8, v9, v10, v11, v12, v13, v14, v15, v16, v17, v18, v19, v20] hv hsz ?_ ?_ ?_) h
  · intro j hj
    match j, hj with
    | 0, _ => show (W.cell? ⟨g, 0, none⟩).isSome = true; rw [c0]; rfl
    | 1, _ => show (W.cell? ⟨g, 1, none⟩).isSome = true; rw [c1]; rfl
    | 2, _ => show (W.cell? ⟨g, 2, none⟩).isSome = true; rw [c2]; rfl
    | 3, _ => show (W.cell? ⟨g, 3, none⟩).isSome = true; rw [c3]; rfl
    | 4, _ => show (W.cell? ⟨g, 4, none⟩).isSome = true; rw [c4]; rfl
    | 5, _ => show (W.cell? ⟨g, 5, none⟩).isSome = true; rw [c5]; rfl
    | 6, _ => show (W.cell? ⟨g, 6, none⟩).isSome = true; rw [c6]; rfl
    | 7, _ => show (W.cell? ⟨g, 7, none⟩).isSome = true; rw [c7]; rfl
    | 8, _ => show (W.cell? ⟨g, 8, none⟩).isSome = true; rw [c8]; rfl
    | 9, _ => show (W.cell? ⟨g, 9, none⟩).isSome = true; rw [c9]; rfl
    | 10, _ => show (W.cell? ⟨g, 10, none⟩).isSome = true; rw [c10]; rfl
    | 11, _ => show (W.cell? ⟨g, 11, none⟩).isSome = true; rw [c11]; rfl
    | 12, _ => show (W.cell? ⟨g, 12, none⟩).isSome = true; rw [c12]; rfl
    | 13, _ => show (W.cell? ⟨g, 13, none⟩).isSome = true; rw [c13]; rfl
    | 14, _ => show (W.cell? ⟨g, 14, none⟩).isSome = true; rw [c14]; rfl
    | 15, _ => show (W.cell? ⟨g, 15, none⟩).isSome = true; rw [c15]; rfl
    | 16, _ => show (W.cell? ⟨g, 16, none⟩).isSome = true; rw [c16]; rfl
    | 17, _ => show (W.cell? ⟨g, 17, none⟩).isSome = true; rw [c17]; rfl
    | 18, _ => show (W.cell? ⟨g, 18, none⟩).isSome = true; rw [c18]; rfl
    | 19, _ => show (W.cell? ⟨g, 19, none⟩).isSome = true; rw [c19]; rfl
    | 20, _ => show (W.cell? ⟨g, 20, none⟩).isSome = true; rw [c20]; rfl
    | j + 21, hj => exact absurd hj (by simp)
  · intro j hj
    match j, hj with
    | 0, _ => exact f0
    | 1, _ => exact f1
    | 2, _ => exact f2
    | 3, _ => exact f3
    | 4, _ => exact f4
    | 5, _ => exact f5
    | 6, _ => exact f6
    | 7, _ => exact f7
    | 8, _ => exact f8
    | 9, _ => exact f9
    | 10, _ => exact f10
    | 11, _ => exact f11
    | 12, _ => exact f12
    | 13, _ => exact f13
    | 14, _ => exact f14
    | 15, _ => exact f15
    | 16, _ => exact f16
    | 17, _ => exact f17
    | 18, _ => exact f18
    | 19, _ => exact f19
    | 20, _ => exact f20
    | j + 21, hj => exact absurd hj (by simp)
  · simp only [List.mem_cons, List.not_mem_nil, or_false]
    rintro u (rfl | rfl | rfl | rfl | rfl | rfl | rfl | rfl | rfl | rfl | rfl | rfl | rfl | rfl | rfl | rfl | rfl | rfl | rfl | rfl | rfl)
    · exact o0
    · exact o1
    · exact o2
    · exact o3
    · exact o4
    · exact o5
    · exact o6
    · exact o7
    · exact o8
    · exact o9
    · exact o10
    · exact o11
    · exact o12
    · exact o13
    · exact o14
    · exact o15
    · exact o16
    · exact o17
    · exact o18
    · exact o19
    · exact o20
end
end Go.Proofs.YtnafcjaddnkioaaGreatDoor.PLooks
end
