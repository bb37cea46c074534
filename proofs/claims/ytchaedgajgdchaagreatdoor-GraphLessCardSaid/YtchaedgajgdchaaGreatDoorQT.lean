/- Which place stands ahead; the law GraphLess answers true at every two places. Condition: the variable MaxLen holds an int. -/
import Derived.Test.YtchaedgajgdchaaGreatDoorQD
import Derived.Test.YtchaedgajgdchaaGreatDoorProg
import Derived.WalkKit
import Derived.Below
import Derived.Test.YtchaedgajgdchaaGreatDoorQE
import Derived.Test.YtchaedgajgdchaaGreatDoorQS
import Derived.KernelRfl
section
set_option linter.unusedVariables false
set_option linter.unusedSimpArgs false
namespace Go.Proofs.YtchaedgajgdchaaGreatDoor.Less
open Go.Qe Go.RowKit
theorem isNaN_q (x : Int) (w : World) : Calls Tryz.prog 55 #[.int .i64 x] w fun e w' => e = .returned (.bool false) ∧ w = w' := by
  go_enter Tryz.func55, Tryz.ntmps55
  go_wp2
  go_ret
  exact ⟨rfl, rfl⟩
def cmp3 (x y : Int) : Int := if x < y then -1 else if y < x then 1 else 0
theorem compare_q (x y : Int) (w : World) : Calls Tryz.prog 32 #[.int .i64 x, .int .i64 y] w fun e w' => e = .returned (.int .i64 (cmp3 x y)) ∧ w = w' := by
  by_cases h1 : x < y
  · have e : cmp3 x y = -1 := by simp [cmp3, h1]
    rw [e]; clear e
    go_enter Tryz.func32, Tryz.ntmps32
    go_wp2_with (first | (go_at_call 55; refine (isNaN_q _ _).mono ?_; rintro e w' ⟨rfl, rfl⟩))
    go_ret
    exact ⟨rfl, rfl⟩
  · by_cases h2 : y < x
    · have e : cmp3 x y = 1 := by simp [cmp3, h1, h2]
      rw [e]; clear e
      have h1' : (decide (x < y)) = false := by simpa using h1
      go_enter Tryz.func32, Tryz.ntmps32
      go_wp2_with (first | (go_at_call 55; refine (isNaN_q _ _).mono ?_; rintro e w' ⟨rfl, rfl⟩))
      go_ret
      exact ⟨rfl, rfl⟩
    · have e : cmp3 x y = 0 := by simp [cmp3, h1, h2]
      rw [e]; clear e
      have h1' : (decide (x < y)) = false := by simpa using h1
      have h2' : (decide (y < x)) = false := by simpa using h2
      go_enter Tryz.func32, Tryz.ntmps32
      go_wp2_with (first | (go_at_call 55; refine (isNaN_q _ _).mono ?_; rintro e w' ⟨rfl, rfl⟩))
      go_ret
      exact ⟨rfl, rfl⟩
end Go.Proofs.YtchaedgajgdchaaGreatDoor.Less
end
section
set_option linter.unusedVariables false
set_option linter.unusedSimpArgs false
namespace Go.Proofs.YtchaedgajgdchaaGreatDoor.Less
open Go.Qe Go.RowKit
/-- Sheet, column, row: which place stands ahead. -/
def lessB (a0 a1 a2 b0 b1 b2 : Int) : Bool := if a0 = b0 then (if a2 = b2 then decide (a1 < b1) else decide (a2 < b2)) else decide (a0 < b0)
theorem refLess_q (a0 a1 a2 b0 b1 b2 : Int) (w : World) : Calls Tryz.prog 6 #[.agg #[.int .i64 a0, .int .i64 a1, .int .i64 a2], .agg #[.int .i64 b0, .int .i64 b1, .int .i64 b2]] w fun e w' => e = .returned (.bool (lessB a0 a1 a2 b0 b1 b2)) ∧ Below w.heap.size w w' := by
  by_cases h1 : a0 = b0
  · by_cases h2 : a2 = b2
    · have e : lessB a0 a1 a2 b0 b1 b2 = decide (a1 < b1) := by simp [lessB, h1, h2]
      rw [e]; clear e
      subst h1 h2
      go_enter Tryz.func6, Tryz.ntmps6
      go_wp2
      all_goals go_ret
      all_goals exact ⟨rfl, by repeat (first | exact Below.refl _ _ | apply Below.drew | refine Below.alloc ?_ (by simp) _)⟩
    · have e : lessB a0 a1 a2 b0 b1 b2 = decide (a2 < b2) := by simp [lessB, h1, h2]
      rw [e]; clear e
      have h2' : (a2 == b2) = false := by simpa using h2
      have h2'' : (a2 != b2) = true := by simpa using h2
      clear h2
      subst h1
      go_enter Tryz.func6, Tryz.ntmps6
      go_wp2
      all_goals go_ret
      all_goals exact ⟨rfl, by repeat (first | exact Below.refl _ _ | apply Below.drew | refine Below.alloc ?_ (by simp) _)⟩
  · have e : lessB a0 a1 a2 b0 b1 b2 = decide (a0 < b0) := by simp [lessB, h1]
    rw [e]; clear e
    have h2' : (a0 == b0) = false := by simpa using h1
    have h2'' : (a0 != b0) = true := by simpa using h1
    clear h1
    go_enter Tryz.func6, Tryz.ntmps6
    go_wp2
    all_goals go_ret
    all_goals exact ⟨rfl, by repeat (first | exact Below.refl _ _ | apply Below.drew | refine Below.alloc ?_ (by simp) _)⟩
end Go.Proofs.YtchaedgajgdchaaGreatDoor.Less
end
section
set_option linter.unusedVariables false
set_option linter.unusedSimpArgs false
namespace Go.Proofs.YtchaedgajgdchaaGreatDoor.Less
open Go.Qe Go.RowKit
set_option maxRecDepth 1000000
theorem memo_pure {κ : Nat → Value} {P : Program} {B : Bd} {G f c : Nat} {args : List Value} {v : Value} (hv : af v = true)
    (h : ∀ (φ : Phi) (w : World) (args' : List Value), VL κ φ args args' → B.n ≤ w.heap.size → (∀ β, β < B.n → w.heap[β]? = B.w.heap[β]?) → Ran P f ⟨args'⟩ w fun e w' => e = .returned v ∧ Quiet w w') :
    MemoOk κ P B G f ⟨args, c, [], .ret v none, c, []⟩ :=
  ⟨Ext.refl _ _, fun {φ w args'} _ hR _ hB hV => (h φ w args' hV hB hR.base).mono fun e w' ⟨h1, h2⟩ => ⟨φ, h2.stp c hR hB, by subst h1; exact V.af (κ := κ) (φ := φ) hv⟩⟩
theorem ran_of_calls {P : Program} {f : FuncId} {fn : Func} {bd : Code} (hf : P.funcs[f]? = some fn) (hn : (fn.name == "runtime.NumGoroutine") = false) (hb : fn.body = some bd) {args : Array Value} {w : World} {R : Ending → World → Prop} (h : Calls P f args w R) : Ran P f args w R :=
  .inr ⟨callFunc_enter hf hn hb _ _, h⟩
theorem calls_of_ran {P : Program} {f : FuncId} {fn : Func} {bd : Code} (hf : P.funcs[f]? = some fn) (hn : (fn.name == "runtime.NumGoroutine") = false) (hb : fn.body = some bd) {args : Array Value} {w : World} {R : Ending → World → Prop} (h : Ran P f args w R) : Calls P f args w R := by
  rcases h with ⟨v', w', h1, _⟩ | ⟨_, h2⟩
  · rw [callFunc_enter hf hn hb _ _] at h1; cases h1
  · exact h2
theorem quiet_of_below {w w' : World} (h : Below w.heap.size w w') : Quiet w w' := ⟨h.size, h.block, h.tape, h.os, h.output⟩
theorem quiet_below {w w' : World} (q : Quiet w w') : Below w.heap.size w w' := ⟨q.os, q.tape, q.output, q.size, q.heap⟩

/-- Six ints, as the evaluator's opaque values. -/
def kv (a0 a1 a2 b0 b1 b2 : Int) : Nat → Value
  | 0 => .int .i64 a0
  | 1 => .int .i64 a1
  | 2 => .int .i64 a2
  | 3 => .int .i64 b0
  | 4 => .int .i64 b1
  | 5 => .int .i64 b2
  | _ => .nilIface
def pA : Value := .agg ⟨[.chan (some 0), .chan (some 1), .chan (some 2)]⟩
def pB : Value := .agg ⟨[.chan (some 3), .chan (some 4), .chan (some 5)]⟩
def cm (x y c : Nat) (r : Int) : Memo := ⟨[.chan (some x), .chan (some y)], c, [], .ret (.int .i64 r) none, c, []⟩
def lm (c : Nat) (l : List Value) (r : Bool) : Memo := ⟨l, c, [], .ret (.bool r) none, c, []⟩
def retIs (b : Bool) : Option (Ot × Nat × Heap) → Bool
  | some (.ret (.bool b') _, _, _) => b == b'
  | _ => false
def lessL (r1 r2 r3 : Int) : List (Nat × Memo) := [(32, cm 0 3 1004 r1), (32, cm 2 5 1004 r2), (32, cm 1 4 1004 r3)]
noncomputable def lessE (r1 r2 r3 : Int) : Env := { Tryz.qenv with memo := mkMemo (lessL r1 r2 r3) }
def or3 (r1 r2 r3 : Int) : Bool := decide ((if r1 = 0 then (if r2 = 0 then r3 else r2) else r1) < 0)
theorem less27 : ([-1, 0, 1].all fun r1 => [-1, 0, 1].all fun r2 => [-1, 0, 1].all fun r3 => retIs (or3 r1 r2 r3) (callD (lessE r1 r2 r3) 60 (.fn 5 [pA, pB]) 1000 .e)) = true := by kernel_rfl
theorem cmp3_mem (x y : Int) : cmp3 x y ∈ ([-1, 0, 1] : List Int) := by
  unfold cmp3; split
  · simp
  · split <;> simp
theorem or3_less (a0 a1 a2 b0 b1 b2 : Int) : or3 (cmp3 a0 b0) (cmp3 a2 b2) (cmp3 a1 b1) = lessB a0 a1 a2 b0 b1 b2 := by
  unfold or3 lessB cmp3
  repeat' split
  all_goals first | omega | (simp; omega) | simp_all
section
variable {a0 a1 a2 b0 b1 b2 : Int} {φ : Phi}
theorem V_A : V (kv a0 a1 a2 b0 b1 b2) φ pA (.agg ⟨[.int .i64 a0, .int .i64 a1, .int .i64 a2]⟩) := .agg (.cons (.opq 0 rfl) (.cons (.opq 1 rfl) (.cons (.opq 2 rfl) .nil)))
theorem V_B : V (kv a0 a1 a2 b0 b1 b2) φ pB (.agg ⟨[.int .i64 b0, .int .i64 b1, .int .i64 b2]⟩) := .agg (.cons (.opq 3 rfl) (.cons (.opq 4 rfl) (.cons (.opq 5 rfl) .nil)))
theorem V.opqI {κ : Nat → Value} {k : Nat} {r : Value} (h : V κ φ (.chan (some k)) r) : r = κ k := by
  cases h with
  | af e => simp [Qe.af] at e
  | opq k _ => rfl
theorem VL.two {κ : Nat → Value} {x y : Value} {l : List Value} (h : VL κ φ [x, y] l) : ∃ x' y', l = [x', y'] ∧ V κ φ x x' ∧ V κ φ y y' := by
  cases h with
  | cons h1 h2 => cases h2 with
    | cons h3 h4 => cases h4; exact ⟨_, _, rfl, h1, h3⟩
theorem V.agg3 {κ : Nat → Value} {i j k : Nat} {r : Value} (h : V κ φ (.agg ⟨[.chan (some i), .chan (some j), .chan (some k)]⟩) r) : r = .agg ⟨[κ i, κ j, κ k]⟩ := by
  obtain ⟨l, rfl, hl⟩ := h.aggI
  cases hl with
  | cons h1 hl => cases hl with
    | cons h2 hl => cases hl with
      | cons h3 hl => cases hl; rw [V.opqI h1, V.opqI h2, V.opqI h3]
end
theorem cm_ok {a0 a1 a2 b0 b1 b2 : Int} {B : Bd} {x y c : Nat} {i j : Int} (hx : kv a0 a1 a2 b0 b1 b2 x = .int .i64 i) (hy : kv a0 a1 a2 b0 b1 b2 y = .int .i64 j) : MemoOk (kv a0 a1 a2 b0 b1 b2) Tryz.prog B Tryz.qenv.G 32 (cm x y c (cmp3 i j)) :=
  memo_pure rfl fun φ w args' hV _ _ => by
    obtain ⟨x', y', rfl, h1, h2⟩ := VL.two hV
    rw [V.opqI h1, V.opqI h2, hx, hy]
    exact ran_of_calls Tryz.func32 (by kernel_rfl) (bd := (Tryz.f32.body).get rfl) rfl ((compare_q i j w).mono fun e w' ⟨h1, h2⟩ => ⟨h1, by subst h2; exact quiet_refl _⟩)
theorem less_q (a0 a1 a2 b0 b1 b2 : Int) (w : World) (m : Int) (hm : w.cell? ⟨4, 0, none⟩ = some (.int .i64 m)) :
    Ran Tryz.prog 5 #[.agg ⟨[.int .i64 a0, .int .i64 a1, .int .i64 a2]⟩, .agg ⟨[.int .i64 b0, .int .i64 b1, .int .i64 b2]⟩] w fun e w' => e = .returned (.bool (lessB a0 a1 a2 b0 b1 b2)) ∧ Quiet w w' := by
  have hsz : 4 < w.heap.size := by
    simp only [World.cell?] at hm
    cases h : w.heap[4]? with
    | none => simp [h] at hm
    | some o => exact (Array.getElem?_eq_some_iff.1 h).1
  have hE : EnvOk (kv a0 a1 a2 b0 b1 b2) (lessE (cmp3 a0 b0) (cmp3 a2 b2) (cmp3 a1 b1)) ⟨w.heap.size, w⟩ :=
    (Tryz.env_ok _ ⟨w.heap.size, w⟩ m hsz hm).memos _ (AllM.cons (cm_ok rfl rfl) (AllM.cons (cm_ok rfl rfl) (AllM.cons (cm_ok rfl rfl) AllM.nil)))
  have hrun := List.all_eq_true.1 (List.all_eq_true.1 (List.all_eq_true.1 less27 _ (cmp3_mem a0 b0)) _ (cmp3_mem a2 b2)) _ (cmp3_mem a1 b1)
  rw [or3_less] at hrun
  generalize hr : callD (lessE (cmp3 a0 b0) (cmp3 a2 b2) (cmp3 a1 b1)) 60 (.fn 5 [pA, pB]) 1000 .e = r at hrun
  unfold retIs at hrun
  split at hrun
  · have hb := eq_of_beq hrun
    have h := eval_ran hE (show Tryz.qenv.G ≤ 1000 by decide) hr (.cons V_A (.cons V_B .nil))
    refine h.mono ?_
    rintro e w' ⟨φ', v', rfl, hv, hq⟩
    exact ⟨by rw [hv.bool, hb], hq⟩
  · cases hrun

def lawL (r : Bool) : List (Nat × Memo) := [(5, lm 1010 [pA, pB] r), (6, lm 1010 [pA, pB] r), (13, lm 1015 [] true)]
noncomputable def lawE (r : Bool) : Env := { Tryz.qenv with memo := mkMemo (lawL r) }
theorem law_true : isRet (callD (lawE true) 60 (.fn 3 [pA, pB]) 1000 .e) = true := by kernel_rfl
theorem law_false : isRet (callD (lawE false) 60 (.fn 3 [pA, pB]) 1000 .e) = true := by kernel_rfl
theorem law_run (r : Bool) : isRet (callD (lawE r) 60 (.fn 3 [pA, pB]) 1000 .e) = true := by cases r; exact law_false; exact law_true
theorem cell_base {w w0 : World} {g : Nat} {v : Value} (hg : g < w0.heap.size) (h : ∀ β, β < w0.heap.size → w.heap[β]? = w0.heap[β]?) (hm : w0.cell? ⟨g, 0, none⟩ = some v) : w.cell? ⟨g, 0, none⟩ = some v := by
  have := h g hg
  simp only [World.cell?] at hm ⊢
  rw [this]; exact hm
theorem law_q (a0 a1 a2 b0 b1 b2 : Int) (w : World) (m : Int) (hm : w.cell? ⟨4, 0, none⟩ = some (.int .i64 m)) :
    Calls Tryz.prog 3 #[.agg #[.int .i64 a0, .int .i64 a1, .int .i64 a2], .agg #[.int .i64 b0, .int .i64 b1, .int .i64 b2]] w fun e w' => e = .returned (.bool true) ∧ Below w.heap.size w w' := by
  have hsz : 4 < w.heap.size := by
    simp only [World.cell?] at hm
    cases h : w.heap[4]? with
    | none => simp [h] at hm
    | some o => exact (Array.getElem?_eq_some_iff.1 h).1
  have hE : EnvOk (kv a0 a1 a2 b0 b1 b2) (lawE (lessB a0 a1 a2 b0 b1 b2)) ⟨w.heap.size, w⟩ := by
    refine (Tryz.env_ok _ ⟨w.heap.size, w⟩ m hsz hm).memos _ (AllM.cons ?_ (AllM.cons ?_ (AllM.cons ?_ AllM.nil)))
    · refine memo_pure rfl fun φ w1 args' hV _ hb => ?_
      obtain ⟨x', y', rfl, h1, h2⟩ := VL.two hV
      rw [V.agg3 h1, V.agg3 h2]
      exact less_q a0 a1 a2 b0 b1 b2 w1 m (cell_base hsz hb hm)
    · refine memo_pure rfl fun φ w1 args' hV _ hb => ?_
      obtain ⟨x', y', rfl, h1, h2⟩ := VL.two hV
      rw [V.agg3 h1, V.agg3 h2]
      exact ran_of_calls Tryz.func6 (by kernel_rfl) (bd := (Tryz.f6.body).get rfl) rfl ((refLess_q a0 a1 a2 b0 b1 b2 w1).mono fun e w' ⟨h1, h2⟩ => ⟨h1, quiet_of_below h2⟩)
    · refine memo_pure rfl fun φ w1 args' hV _ hb => ?_
      cases hV
      exact ran_of_calls Tryz.func13 (by kernel_rfl) (bd := (Tryz.f13.body).get rfl) rfl (Tryz.alive_ran w1 m (cell_base hsz hb hm))
  have hrun := law_run (lessB a0 a1 a2 b0 b1 b2)
  generalize hr : callD (lawE (lessB a0 a1 a2 b0 b1 b2)) 60 (.fn 3 [pA, pB]) 1000 .e = r at hrun
  unfold isRet at hrun
  split at hrun
  · have h := eval_ran hE (show Tryz.qenv.G ≤ 1000 by decide) hr (.cons V_A (.cons V_B .nil))
    refine (calls_of_ran Tryz.func3 (by kernel_rfl) (bd := (Tryz.f3.body).get rfl) rfl h).mono ?_
    rintro e w' ⟨φ', v', rfl, hv, hq⟩
    exact ⟨by rw [hv.bool], quiet_below hq⟩
  · cases hrun
end Go.Proofs.YtchaedgajgdchaaGreatDoor.Less
end
