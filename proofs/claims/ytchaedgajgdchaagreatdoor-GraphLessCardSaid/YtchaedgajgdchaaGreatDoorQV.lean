/- The statement GraphLessCardSaid is proved: for every two places GraphLess answers true, and the input reads behind the call as it read before. Condition: the tables that the row lists are laid as the program's text lays them. -/
import Derived.Test.YtchaedgajgdchaaGreatDoorQT
import Derived.Test.YtchaedgajgdchaaGreatDoorQU
import Derived.Test.YtchaedgajgdchaaGreatDoorCards
import Derived.Test.YtchaedgajgdchaaGreatDoorTie
import Derived.WalkKit
import Derived.ProofKit
import Derived.OpenShut
import Derived.ShutString
import Derived.ChangeOld
import Derived.Below
import Derived.Carry
import Derived.SizedLaws
import Derived.Deep.DeepHandedRow
import Derived.Deep.DeepWitnessRowRef
import Derived.Lib.LaidTab
import Derived.Lib.LaidIn
import Derived.Shelf.Vars
section
set_option linter.unusedVariables false
set_option linter.unusedSimpArgs false
namespace Go.Proofs.YtchaedgajgdchaaGreatDoor.LessRow
open Go.ChangeShapes Go.WideShapes Go.ChangeAt Go.RowKit
open Go.ChangeMaps (open_string shut_string)
theorem own : ownKnob Tryz.prog.godebug = none := by kernel_rfl
theorem laidOut : laidOutB Tryz.prog = true := by kernel_rfl
theorem maxLen_cell {W : World} (h : W.ShapedOpen Tryz.prog) : ∃ m, W.cell? ⟨4, 0, none⟩ = some (.int .i64 m) :=
  cell_of_shapedOpen_int (zero := #[.int .i64 0]) (t := 3) h (of_decide_eq_true (by kernel_rfl)) (by kernel_rfl) rfl (by kernel_rfl) (by kernel_rfl) Tryz.underlying3
theorem okWide_ints3 {P : Program} {w : World} {r : Reach} {base t : Nat} {v : Value} {fs : Array Field} (ht : P.underlying t = some (.struct fs)) (h3 : P.underlying 3 = some (.int .i64)) (hc : P.cellTypes P.depth t = some [3, 3, 3]) (hs : P.cellsOf t = 3) (h : Value.okWide P w r base t v) :
    ∃ a b c, v = .agg #[.int .i64 a, .int .i64 b, .int .i64 c] := by
  simp only [Value.okWide, ht] at h
  obtain ⟨cs, rfl, h2, ts, h4, _, h5⟩ := h
  rw [hc] at h4
  cases h4
  rw [hs] at h2
  obtain ⟨l⟩ := cs
  match l, h2 with
  | [x, y, z], _ =>
    have key : ∀ (i : Nat) (x : Value), i < 3 → (#[x, y, z] : Array Value)[i]? = some x → True := fun _ _ _ _ => trivial
    have one : ∀ (i : Nat) (u : Value), ([x, y, z].toArray)[i]? = some u → i < 3 → ∃ n, u = .int .i64 n := by
      intro i u hu hi
      obtain ⟨t', ht', hok⟩ := h5 i u hu
      have e : t' = 3 := by
        match i, hi, ht' with
        | 0, _, h => simpa using h.symm
        | 1, _, h => simpa using h.symm
        | 2, _, h => simpa using h.symm
      subst e
      have hv : Value.okWide P w r base 3 u := by simp only [Value.okWide, h3]; exact hok
      obtain ⟨n, hn⟩ := okWide_int h3 hv
      exact ⟨n, hn⟩
    obtain ⟨a, rfl⟩ := one 0 x rfl (by omega)
    obtain ⟨b, rfl⟩ := one 1 y rfl (by omega)
    obtain ⟨c, rfl⟩ := one 2 z rfl (by omega)
    exact ⟨a, b, c, rfl⟩
set_option maxRecDepth 100000 in
theorem contract (H : Type) (enc : TypeId × Value → H) (W : World) (base : Nat) (args : Array Value) (ds gs : List (DataW H)) (before : List MemPlace)
    (hval : ∀ (j : Nat) t v, Tryz.f3.params[j]? = some t → args[j]? = some v → Value.okWide Tryz.prog W .any base t v)
    (hW : DataW.Whole enc Tryz.prog Tryz.f3.params.toList Rows.graphLessSpec.vars false W args.toList ds gs before) (hsh : W.ShapedOpen Tryz.prog) :
    Calls Tryz.prog 3 args W fun e W' => ∃ v, e = .returned v ∧ Rows.graphLessSpec.post enc Tryz.prog Tryz.f3 false true false false W args v W' := by
  have hW' := hW
  obtain ⟨p, q, hA0, hV, rfl, hfz, hnd⟩ := hW
  have hA : DataW.TrodAll enc Tryz.prog W 0 (fun _ => true) true Tryz.f3.params.toList args.toList ds p := hA0
  rw [Tryz.params3] at hA hval
  obtain ⟨v0, vs0, d0, ds0, p0, q0, hargs, rfl, rfl, h0, r0⟩ := trodAll_cons hA
  obtain ⟨v1, vs1, d1, ds1, p1, q1, rfl, rfl, rfl, h1, r1⟩ := trodAll_cons r0
  obtain ⟨rfl, rfl, rfl⟩ := trodAll_nil r1
  obtain rfl : args = #[v0, v1] := by cases args; simp_all
  obtain ⟨rfl, rfl⟩ := trodVars_none hV
  have lt0 : ∀ x ∈ p0, x.block < W.heap.size := by obtain ⟨m, hm⟩ := h0; exact DataW.trod_lt m _ _ _ hm
  have lt1 : ∀ x ∈ p1, x.block < W.heap.size := by obtain ⟨m, hm⟩ := h1; exact DataW.trod_lt m _ _ _ hm
  obtain ⟨a0, a1, a2, rfl⟩ := okWide_ints3 Tryz.underlying23 Tryz.underlying3 (by kernel_rfl) (by kernel_rfl) (hval 0 23 v0 rfl rfl)
  obtain ⟨b0, b1, b2, rfl⟩ := okWide_ints3 Tryz.underlying23 Tryz.underlying3 (by kernel_rfl) (by kernel_rfl) (hval 1 23 v1 rfl rfl)
  obtain ⟨m, hm⟩ := maxLen_cell hsh
  refine (Less.law_q a0 a1 a2 b0 b1 b2 W m hm).mono fun e W' ⟨he, bel⟩ => ?_
  subst he
  exact ⟨_, rfl, _, _, _, [], _, [], hW', trodAll_mk1 (shut_bool Tryz.underlying4 _),
    (trodAll_cons_mk (Below.trod laidOut (by kernel_rfl) (of_decide_eq_true (by kernel_rfl)) h0 bel lt0) (trodAll_cons_mk (Below.trod laidOut (by kernel_rfl) (of_decide_eq_true (by kernel_rfl)) h1 bel lt1) trodAll_mk0)), rfl, bel.frame _, fun h => by cases h⟩

/-! ### The witness: the settled world with two blocks more, the listed variables holding what their initialisers lay -/
def litV : DataW Unit → List Value
  | .lit (.int k n) => [.int k n]
  | .agg l => l.flatMap fun
    | .lit (.int k n) => [.int k n]
    | .agg m => m.flatMap fun
      | .lit (.int k n) => [.int k n]
      | _ => []
    | _ => []
  | _ => []
noncomputable def laidWorld (os : Os) : World :=
  let N := (World.settled Tryz.prog os).heap.size
  let w0 := World.holding Tryz.prog os ⟨#[.cells #[.string "value out of range".toUTF8] 379, .cells #[.string "invalid syntax".toUTF8] 379], #[], []⟩
  let put (h : Array Obj) (g : Nat) (cs : Array Value) : Array Obj := h.modify g fun
    | .cells _ t frozen => .cells cs t frozen
    | o => o
  let h1 := put w0.heap 0 (litV Rows.laid_unicode_utf8_first).toArray
  let h2 := put h1 1 (litV Rows.laid_unicode_utf8_acceptRanges).toArray
  let h3 := put h2 5 #[.iface 377 (.pointer (some ⟨N + 1, 0, none⟩))]
  let h4 := put h3 6 #[.iface 377 (.pointer (some ⟨N, 0, none⟩))]
  let h5 := put h4 7 (litV Rows.laid_internal_strconv_uint64pow10).toArray
  let h6 := put h5 8 (litV Rows.laid_math_bits_deBruijn32tab).toArray
  let h7 := put h6 9 (litV Rows.laid_math_bits_deBruijn64tab).toArray
  { w0 with heap := h7 }
def wargs : Array Value := #[.agg #[.int .i64 0, .int .i64 0, .int .i64 0], .agg #[.int .i64 0, .int .i64 0, .int .i64 0]]
set_option maxRecDepth 1000000 in
theorem laid_met (os : Os) : laidMet Tryz.prog Rows.graphLessRow.laid ((laidWorld os).forCall (fun _ _ => 0) ⟨#[], wargs, []⟩).memory :=
  laidMet_of_run' 8 (by kernel_rfl) (by kernel_rfl)
theorem witness_row (os : Os) {H : Type} (enc : TypeId × Value → H) :
    (OpenSpec.ofChange Rows.graphLessSpec).preRow enc Tryz.prog Tryz.f3 Rows.graphLessRow.domain false Rows.graphLessRow.laid ((laidWorld os).forCall (fun _ _ => 0) ⟨#[], wargs, []⟩).memory wargs := by
  have hw : (DataW.whole enc Tryz.prog ((laidWorld os).forCall (fun _ _ => 0) ⟨#[], wargs, []⟩).memory Tryz.f3.params.toList Rows.graphLessSpec.vars false wargs.toList 8).map (fun x => (x.1, x.2.1)) =
      some ([.agg [.lit (.int .i64 0), .lit (.int .i64 0), .lit (.int .i64 0)], .agg [.lit (.int .i64 0), .lit (.int .i64 0), .lit (.int .i64 0)]], []) := by kernel_rfl
  obtain ⟨⟨x1, x2, x3⟩, hx, hx1⟩ := Option.map_eq_some_iff.1 hw
  simp only [Prod.mk.injEq] at hx1
  obtain ⟨rfl, rfl⟩ := hx1
  exact OpenSpec.preRow_of_cond 8 hx (by kernel_rfl) (fun k hk => by cases hk) (by kernel_rfl) (laid_met os)
set_option maxRecDepth 100000 in
theorem lifted (os : Os) (started : os.Started) (H : Type) (enc : TypeId × Value → H) (F : Stop.Interp) :
    ReturnsInHanded {} Tryz.checked os 3 .any ((OpenSpec.ofChange Rows.graphLessSpec).preRow enc Tryz.prog Tryz.f3 Rows.graphLessRow.domain false Rows.graphLessRow.laid) (((OpenSpec.ofChange Rows.graphLessSpec).at F).post enc Tryz.prog Tryz.f3 false true false false) := by
  refine returnsInHanded_of_row (C := Tryz.checked) (s := OpenSpec.ofChange Rows.graphLessSpec) own started (by kernel_rfl) Tryz.func3
    (witness_row_atRef (enc := enc) (C := Tryz.checked) false (laidWorld os) wargs rfl (by kernel_rfl) (by kernel_rfl) (by kernel_rfl) (witness_row os enc)) ?_
  intro W base args ds gs before hval hW _ _ _ _ hsh _
  exact contract H enc W base args ds gs before hval hW hsh
theorem named3 : Tryz.prog.funcNamed "quire/quirelaw18.GraphLess" = some 3 := by kernel_rfl
theorem said : Rows.GraphLessSaid :=
  OpenClaim.holds_of_cond 3 Tryz.f3 rfl rfl rfl rfl rfl rfl rfl ⟨rfl, rfl, rfl, rfl, rfl⟩ rfl rfl rfl rfl rfl named3 Tryz.func3 lessFacts.closed
    (of_decide_eq_true (by kernel_rfl)) (by unfold Func.isWrapper; first | (rw [if_pos (by decide +kernel)]; kernel_rfl) | (rw [if_neg (by decide +kernel)]; exact ⟨rfl, rfl⟩))
    (fun os started H enc _ F => by rw [OpenClaim.pre_eq_preRow]; exact lifted os started H enc F)
/-- No parameter wants a stand-in; the program's own looks are as the card has them. -/
theorem plain (f : FuncId) (fn : Func) (hf : Tryz.pinned.checked.prog.funcNamed "quire/quirelaw18.GraphLess" = some f) (hfn : Tryz.pinned.checked.prog.funcs[f]? = some fn) :
    true = Tryz.pinned.checked.prog.looks [] ∧ ∀ (j : Nat) t, fn.params[j]? = some t → Tryz.pinned.checked.prog.wantsStandIn t = false := by
  obtain rfl : f = 3 := Option.some.inj (named3.symm.trans hf) |>.symm
  obtain rfl : fn = Tryz.f3 := (Option.some.inj (Tryz.func3.symm.trans hfn)).symm
  refine ⟨by kernel_rfl, fun j t ht => ?_⟩
  rw [Tryz.params3] at ht
  have hm := Array.mem_of_getElem? ht
  simp only [List.mem_toArray, List.mem_cons, List.not_mem_nil, or_false] at hm
  rcases hm with rfl | rfl
  all_goals exact (show Tryz.prog.wantsStandIn 23 = false by kernel_rfl)
theorem wf : Rows.graphLessRow.wfByText (OpenSpec.ofChange Rows.graphLessSpec) = true := by kernel_rfl
theorem main_is : Tryz.prog.mainIs = some (true, "1d583516b47a07a215880845210a7b5b8fd27034d5dad5d9f9ab7a6018dfbb80".toList) := by kernel_rfl
theorem goes : false = Rows.graphLessRow.goesBy Tryz.prog := by kernel_rfl
theorem card : Rows.GraphLessCardSaid :=
  Claim7.holds_tied_plain_at .later [] _ _ _ _ said (fun _ h => by cases h) wf (fun _ h => by cases h) graphLess_row_tie rfl ⟨rfl, rfl⟩ main_is rfl plain goes
end Go.Proofs.YtchaedgajgdchaaGreatDoor.LessRow
namespace Go.Proofs.YtchaedgajgdchaaGreatDoor
theorem less_holds : Rows.GraphLessCardSaid := LessRow.card
#print axioms less_holds
end Go.Proofs.YtchaedgajgdchaaGreatDoor
end
