/- alive() returns true in every world whose MaxLen is an int. -/
import Derived.Test.YtnafcjaddnkioaaGreatDoorQE
import Derived.Test.YtnafcjaddnkioaaGreatDoorQD
import Derived.Test.YtnafcjaddnkioaaGreatDoorQF
import Derived.Shelf.Lays
import Derived.Shelf.Strings.Search2
import Derived.Laws.Externs
section
set_option linter.unusedVariables false
set_option linter.unusedSimpArgs false
namespace Go.Qe
def ofL {α : Type} : List α → Nat → Tr α → Tr α
  | [], _, t => t
  | v :: l, i, t => ofL l (i + 1) (t.set i v)
theorem ofL_get {α : Type} : ∀ (l : List α) (i : Nat) (t : Tr α) (j : Nat), (ofL l i t).get j = if i ≤ j ∧ j < i + l.length then l[j - i]? else t.get j := by
  intro l
  induction l with
  | nil => intro i t j; simp [ofL]; omega
  | cons v l ih =>
    intro i t j
    simp only [ofL, ih, Tr.get_set, List.length_cons]
    by_cases h1 : i + 1 ≤ j ∧ j < i + 1 + l.length
    · rw [if_pos h1, if_pos (by omega), show j - i = (j - (i + 1)) + 1 by omega]; rfl
    · rw [if_neg h1]
      by_cases h2 : i = j
      · subst h2; simp
      · rw [if_neg h2, if_neg (by omega)]
theorem ofL_some {α : Type} {a : Array α} {j : Nat} {v : α} (h : (ofL a.toList 0 .e).get j = some v) : a[j]? = some v := by
  rw [ofL_get] at h
  split at h
  · simpa using h
  · simp at h
end Go.Qe
namespace Go.Proofs
open Go.Qe
set_option maxRecDepth 1000000
theorem Tryz.qfns_eq : ofL Tryz.funcs.toList 0 .e = Tryz.qfns := by kernel_rfl
theorem Tryz.qnames : (Tryz.funcs.toList.all fun f => !(f.name == "runtime.NumGoroutine")) = true := by kernel_rfl
theorem Tryz.qfns_ok (f : Nat) (fn : Func) (h : Tryz.qfns.get f = some fn) : Tryz.prog.funcs[f]? = some fn ∧ (fn.name == "runtime.NumGoroutine") = false := by
  rw [← Tryz.qfns_eq] at h
  have h1 := ofL_some h
  refine ⟨h1, ?_⟩
  have hm : fn ∈ Tryz.funcs.toList := by
    have := Array.mem_of_getElem? h1
    simpa using this
  have := List.all_eq_true.1 Tryz.qnames _ hm
  simpa using this
end Go.Proofs
end
section
set_option linter.unusedVariables false
set_option linter.unusedSimpArgs false
namespace Go.Proofs
open Go.Qe Go.Shelf
def Tryz.ren219 : Ren := ⟨fun | 219 => 314 | 217 => 336 | 225 => 293 | 224 => 292 | 267 => 357 | 266 => 367 | 314 => 374 | n => n, fun | 46 => 132 | 146 => 346 | 51 => 345 | n => n, fun | 1 => 2 | n => n⟩
theorem Tryz.lays219 : Lays.n219 Tryz.prog Tryz.ren219 := {
  mixed := by kernel_rfl
  f217 := Tryz.func336.trans (congrArg some (by kernel_rfl))
  f219 := Tryz.func314.trans (congrArg some (by kernel_rfl))
  f224 := Tryz.func292.trans (congrArg some (by kernel_rfl))
  f225 := Tryz.func293.trans (congrArg some (by kernel_rfl))
  f266 := Tryz.func367.trans (congrArg some (by kernel_rfl))
  f267 := Tryz.func357.trans (congrArg some (by kernel_rfl))
  f314 := Tryz.func374.trans (congrArg some (by kernel_rfl))
  t3 := Tryz.underlying3
  a3 := Tryz.isAgg3
  z3 := Tryz.sizeOf3
  v3 := Tryz.zeroValue3
  t4 := Tryz.underlying4
  a4 := Tryz.isAgg4
  z4 := Tryz.sizeOf4
  v4 := Tryz.zeroValue4
  t5 := Tryz.underlying5
  a5 := Tryz.isAgg5
  z5 := Tryz.sizeOf5
  v5 := Tryz.zeroValue5
  t9 := Tryz.underlying9
  a9 := Tryz.isAgg9
  z9 := Tryz.sizeOf9
  v9 := Tryz.zeroValue9
  t46 := Tryz.underlying132
  a46 := Tryz.isAgg132
  z46 := Tryz.sizeOf132
  v46 := Tryz.zeroValue132
  t51 := Tryz.underlying345
  a51 := Tryz.isAgg345
  z51 := Tryz.sizeOf345
  v51 := Tryz.zeroValue345
  t146 := Tryz.underlying346
  a146 := Tryz.isAgg346
  z146 := Tryz.sizeOf346
  v146 := Tryz.zeroValue346
  g1 := by kernel_rfl }
theorem quiet_refl (w : World) : Quiet w w := ⟨Nat.le_refl _, fun _ _ => rfl, rfl, rfl, rfl⟩
theorem Tryz.run367 (s : ByteArray) (c : Int) (w : World) : (callFunc 367 #[.string s, .int .u8 c]).run Tryz.prog w = .ok (.value (.int .i64 (Lib.indexByte s.data.toList c.toNat.toUInt8))) w := by
  rw [run_callFunc_extern Tryz.func367 (by kernel_rfl) (by kernel_rfl) (by kernel_rfl) (e := Extern.BytealgIndexByte.indexByte) (by kernel_rfl), Lib.run_indexByteString]
  rfl
theorem Tryz.run264 (x y c : Nat) (hc : c ≤ 1) (w : World) : (callFunc 264 #[.int .u64 (.ofNat x), .int .u64 (.ofNat y), .int .u64 (.ofNat c)]).run Tryz.prog w =
    .ok (.value (.tuple #[.int .u64 (Int.ofNat ((x + y + c) % 18446744073709551616)), .int .u64 (Int.ofNat ((x + y + c) / 18446744073709551616))])) w := by
  rw [run_callFunc_extern Tryz.func264 (by kernel_rfl) (by kernel_rfl) (by kernel_rfl) (e := add64Entry) (by kernel_rfl),
    run_add64 (Int.ofNat x) (Int.ofNat y) (Int.ofNat c) (Int.natCast_nonneg _) (Int.natCast_nonneg _) (Int.natCast_nonneg _) (by show (c : Int) ≤ 1; omega)]
  rfl
theorem Tryz.run314 (s t : ByteArray) (m : Int) (w : World) (hs : s.size < 4294967281) (hm : w.cell? ⟨2, 0, none⟩ = some (.int .i64 m)) :
    Ran Tryz.prog 314 #[.string s, .string t] w fun e w' => e = .returned (.int .i64 (Lib.index s.data.toList t.data.toList)) ∧ Quiet w w' := by
  refine .inr ⟨callFunc_enter Tryz.func314 (by kernel_rfl) (bd := (Tryz.f314.body).get rfl) rfl _ _, ?_⟩
  refine (Any.stringslite_Index Tryz.lays219 s t m w hs hm).mono ?_
  rintro e w' ⟨rfl, rfl⟩
  exact ⟨rfl, quiet_refl _⟩
theorem Tryz.idf326 (v : Value) (w : World) : (callFunc 326 #[v]).run Tryz.prog w = .ok (.value v) w := by
  rw [run_callFunc_extern Tryz.func326 (by kernel_rfl) (by kernel_rfl) (by kernel_rfl) (e := (Extern.find Tryz.f326).get rfl) (by kernel_rfl)]
  rfl
theorem Tryz.env_ok (B : Bd) (m : Int) (hn : 2 < B.n) (hm : B.w.cell? ⟨2, 0, none⟩ = some (.int .i64 m)) : EnvOk Tryz.qenv B where
  fns := fun f fn h => Tryz.qfns_ok f fn h
  orc := by
    intro f g h args v hg hx1 hx2 w _ hb
    clear hx1 hx2
    have hm' : w.cell? ⟨2, 0, none⟩ = some (.int .i64 m) := by
      have := hb 2 hn
      simp only [World.cell?] at hm ⊢
      rw [this]; exact hm
    change Tryz.qorc f = some g at h
    unfold Tryz.qorc at h
    split at h
    · cases h
      dsimp only at hg
      split at hg
      · split at hg
        · cases hg
          rename_i hlt
          refine Tryz.run314 _ _ m w ?_ hm'
          have := Nat.le_of_ble_eq_true hlt
          rw [Array.length_toList] at this
          exact this
        · cases hg
      · cases hg
    · cases h
      dsimp only at hg
      split at hg
      · cases hg
        exact .inl ⟨_, w, Tryz.run367 _ _ _, rfl, quiet_refl _⟩
      · cases hg
    · cases h
      dsimp only at hg
      split at hg
      · split at hg
        · cases hg
          rename_i hc
          exact .inl ⟨_, w, Tryz.run264 _ _ _ (Nat.le_of_ble_eq_true hc) _, rfl, quiet_refl _⟩
        · cases hg
      · cases hg
    · cases h
  idf := by
    intro f hf v w
    obtain rfl : f = 326 := Nat.eq_of_beq_eq_true hf
    exact Tryz.idf326 v w
  mix := by kernel_rfl
/-- alive() returns true, in every world whose MaxLen is an int. -/
theorem Tryz.alive_ran (w : World) (m : Int) (hm : w.cell? ⟨2, 0, none⟩ = some (.int .i64 m)) : Calls Tryz.prog 12 #[] w fun e w' => e = .returned (.bool true) ∧ Quiet w w' := by
  have hsz : 2 < w.heap.size := by
    simp only [World.cell?] at hm
    cases h : w.heap[2]? with
    | none => simp [h] at hm
    | some o => exact (Array.getElem?_eq_some_iff.1 h).1
  have hE : EnvOk Tryz.qenv ⟨w.heap.size, w⟩ := Tryz.env_ok ⟨w.heap.size, w⟩ m hsz hm
  have key : ∀ r, callD Tryz.qenv 60 (.fn 12 []) 1000 .e = r → isRet r = true → Ran Tryz.prog 12 #[] w fun e w' => e = .returned (.bool true) ∧ Quiet w w' := by
    intro r hr hi
    unfold isRet at hi
    split at hi
    · have h := eval_ran (κ := fun _ => .nilIface) hE (show Tryz.qenv.G ≤ 1000 by decide) hr (args' := []) .nil
      rcases h with ⟨v', w', h1, φ', v2, h2, h3, h4⟩ | ⟨h1, h2⟩
      · cases h2; exact .inl ⟨_, _, h1, by rw [h3.bool], h4⟩
      · refine .inr ⟨h1, h2.mono ?_⟩
        rintro e w' ⟨φ', v', rfl, hv, hq⟩
        exact ⟨by rw [hv.bool], hq⟩
    · cases hi
  rcases key _ rfl alive_ok with ⟨v', w', h1, _⟩ | ⟨_, h2⟩
  · exfalso
    rw [callFunc_enter Tryz.func12 (by kernel_rfl) (bd := (Tryz.f12.body).get rfl) rfl _ _] at h1
    cases h1
  · exact h2
end Go.Proofs
end
