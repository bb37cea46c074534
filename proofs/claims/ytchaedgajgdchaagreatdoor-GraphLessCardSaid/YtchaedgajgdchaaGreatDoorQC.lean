/- The evaluator's heavier operations and its regions, held against the machine's steps. Conditions: as each theorem states. -/
import Derived.Test.YtchaedgajgdchaaGreatDoorQB
import Derived.Lib.UnsafeStr
import Derived.Laws.AppendOwn
import Derived.AtR
section
set_option linter.unusedVariables false
set_option linter.unusedSimpArgs false
namespace Go.Qe

section
variable {P : Program} {b : Frame} {a : Act} {ops : Array Oper} {i : Nat} {rest : List Nat} {k : List Item} {cs : List Frame} {w w' : World} {o : Oper}

theorem st_value {v : Value} (ho : ops[i]? = some o) (hw : Region.wanted o (yielded ops a.tmps) = true) (hd : ∀ c, o.op ≠ .defer c) (hr : (execOp a.eval o).run P w = .ok (.value v) w') :
    step P (lone (b.atR a (.inRegion ops (i :: rest) :: k)) cs w) = .next (lone (b.atR (a.put o.dst v) (.inRegion ops rest :: k)) cs w') := by
  have hf := Frame.finish_atR b a ops i rest k v
  rw [ho] at hf
  rw [show a.put o.dst v = a.put ((some o).bind (·.dst)) v from rfl, ← hf]
  refine step_lone_go ?_
  rw [stepGR_op ho hw, Oper.semAt_eq _ _ _ hd]
  simp [stepG.apply, Sem.runT_eq, hr]
theorem st_skip (ho : ops[i]? = some o) (hw : Region.wanted o (yielded ops a.tmps) = true) (hd : ∀ c, o.op ≠ .defer c) (hr : (execOp a.eval o).run P w = .ok .skip w') :
    step P (lone (b.atR a (.inRegion ops (i :: rest) :: k)) cs w) = .next (lone (b.atR (a.put o.dst undef) (.inRegion ops rest :: k)) cs w') := by
  have hf := Frame.finish_atR b a ops i rest k undef
  rw [ho] at hf
  rw [show a.put o.dst undef = a.put ((some o).bind (·.dst)) undef from rfl, ← hf]
  refine step_lone_go ?_
  rw [stepGR_op ho hw, Oper.semAt_eq _ _ _ hd]
  simp [stepG.apply, Sem.runT_eq, hr]
theorem st_defer {d : Deferred} (ho : ops[i]? = some o) (hw : Region.wanted o (yielded ops a.tmps) = true) (hro : b.roundOf = none) (hr : (execOp a.eval o).run P w = .ok (.defer d) w') :
    step P (lone (b.atR a (.inRegion ops (i :: rest) :: k)) cs w) = .next (lone (b.atR ({ a with defers := d :: a.defers }.put o.dst undef) (.inRegion ops rest :: k)) cs w') := by
  have hf := Frame.finish_atR b { a with defers := d :: a.defers } ops i rest k undef
  rw [ho] at hf
  rw [show ({ a with defers := d :: a.defers } : Act).put o.dst undef = ({ a with defers := d :: a.defers } : Act).put ((some o).bind (·.dst)) undef from rfl, ← hf]
  refine step_lone_go ?_
  rw [stepGR_op ho hw, hro, Oper.semAt_none]
  simp [stepG.apply, Sem.runT_eq, hr, Frame.atR]
theorem st_enter {f : FuncId} {args : Array Value} (ho : ops[i]? = some o) (hw : Region.wanted o (yielded ops a.tmps) = true) (hd : ∀ c, o.op ≠ .defer c) (hr : (execOp a.eval o).run P w = .ok (.enter f args) w') :
    step P (lone (b.atR a (.inRegion ops (i :: rest) :: k)) cs w) = .next (lone (Frame.enter P f args .normal) (b.atR a (.inRegion ops (i :: rest) :: k) :: cs) w') := by
  refine step_lone_go ?_
  rw [stepGR_op ho hw, Oper.semAt_eq _ _ _ hd]
  simp [stepG.apply, Sem.runT_eq, hr, Frame.atR]
theorem st_round {l : Nat} {f : FuncId} {tmps : Array Value} {asg bd : Code} (ho : ops[i]? = some o) (hw : Region.wanted o (yielded ops a.tmps) = true) (hd : ∀ c, o.op ≠ .defer c)
    (hr : (execOp a.eval o).run P w = .ok (.round l f tmps asg bd) w') :
    step P (lone (b.atR a (.inRegion ops (i :: rest) :: k)) cs w) = .next (lone (Frame.round l f tmps asg bd .normal) (b.atR a (.inRegion ops (i :: rest) :: k) :: cs) w') := by
  refine step_lone_go ?_
  rw [stepGR_op ho hw, Oper.semAt_eq _ _ _ hd]
  simp [stepG.apply, Sem.runT_eq, hr]
theorem st_panic {v : Value} (ho : ops[i]? = some o) (hw : Region.wanted o (yielded ops a.tmps) = true) (hd : ∀ c, o.op ≠ .defer c) (hr : (execOp a.eval o).run P w = .halt (.panic v) w') :
    step P (lone (b.atR a (.inRegion ops (i :: rest) :: k)) cs w) = .next (lone { b.atR a (.inRegion ops (i :: rest) :: k) with mode := .panicking [{ v, recovered := false }] } cs w') := by
  refine step_lone_go ?_
  rw [stepGR_op ho hw, Oper.semAt_eq _ _ _ hd]
  simp [stepG.apply, Sem.runT_eq, hr, Frame.raise_atR]
theorem st_recover {v : Value} {c0 : Frame} {cs0 : List Frame} {older : List PanicEntry} (ho : ops[i]? = some o) (hw : Region.wanted o (yielded ops a.tmps) = true) (hd : ∀ c, o.op ≠ .defer c) (hr : (execOp a.eval o).run P w = .ok .recover w')
    (hro : b.roundOf = none) (hk : b.kind = .deferred) (hm : c0.mode = .panicking ({ v, recovered := false, goexit := false } :: older)) :
    step P (lone (b.atR a (.inRegion ops (i :: rest) :: k)) (c0 :: cs0) w) = .next (lone (b.atR (a.put o.dst v) (.inRegion ops rest :: k)) ({ c0 with mode := .panicking ({ v, recovered := true } :: older) } :: cs0) w') := by
  have hf := Frame.finish_atR b a ops i rest k v
  rw [ho] at hf
  rw [show a.put o.dst v = a.put ((some o).bind (·.dst)) v from rfl, ← hf]
  refine step_lone_go ?_
  rw [stepGR_op ho hw, Oper.semAt_eq _ _ _ hd]
  simp [stepG.apply, Sem.runT_eq, hr, tryRecover, hm, hk, hro, Frame.atR]
theorem st_recover_none {c0 : Frame} {cs0 : List Frame} (ho : ops[i]? = some o) (hw : Region.wanted o (yielded ops a.tmps) = true) (hd : ∀ c, o.op ≠ .defer c) (hr : (execOp a.eval o).run P w = .ok .recover w')
    (hro : b.roundOf = none) (hk : b.kind = .deferred) (hm : c0.mode = .returning ∨ ∃ v older, c0.mode = .panicking ({ v, recovered := true, goexit := false } :: older)) :
    step P (lone (b.atR a (.inRegion ops (i :: rest) :: k)) (c0 :: cs0) w) = .next (lone (b.atR (a.put o.dst .nilIface) (.inRegion ops rest :: k)) (c0 :: cs0) w') := by
  have hf := Frame.finish_atR b a ops i rest k .nilIface
  rw [ho] at hf
  rw [show a.put o.dst .nilIface = a.put ((some o).bind (·.dst)) .nilIface from rfl, ← hf]
  refine step_lone_go ?_
  rw [stepGR_op ho hw, Oper.semAt_eq _ _ _ hd]
  rcases hm with hm | ⟨v, older, hm⟩ <;> simp [stepG.apply, Sem.runT_eq, hr, tryRecover, hm, hk, hro, Frame.atR]
end

/-- The mode of the frame above, as the evaluator has it. -/
inductive UR (κ : Nat → Value) (φ : Phi) : U → FrameMode → Prop
  | ret : UR κ φ none .returning
  | pan {v v' : Value} {r : Bool} : V κ φ v v' → UR κ φ (some (v, r)) (.panicking [{ v := v', recovered := r }])
theorem UR.mono {κ : Nat → Value} {φ φ' : Phi} (h : φ.le φ') {u : U} {m : FrameMode} (k : UR κ φ u m) : UR κ φ' u m := by
  cases k with
  | ret => exact .ret
  | pan e => exact .pan (e.mono h)

/-- The callers: where the frame is a deferred call's, the first one's mode may turn. -/
def CsOk (dk : Bool) (b : Frame) (CS : FrameMode → List Frame) : Prop := match dk with
  | true => b.kind = .deferred ∧ b.roundOf = none ∧ ∃ (c0 : Frame) (cs0 : List Frame), ∀ um, CS um = { c0 with mode := um } :: cs0
  | false => ∃ cs, ∀ um, CS um = cs

def OtR (κ : Nat → Value) (φ : Phi) : Ot → Ending → Prop
  | .ret v _, .returned v' => V κ φ v v'
  | .pan v, .panicked ch => ∃ v', ch = [{ v := v', recovered := false }] ∧ V κ φ v v'
  | _, _ => False

/-- A function's call, as an operation makes it. -/
def Ran (P : Program) (f : FuncId) (args : Array Value) (w : World) (R : Ending → World → Prop) : Prop :=
  (∃ v' w', (callFunc f args).run P w = .ok (.value v') w' ∧ R (.returned v') w') ∨ ((callFunc f args).run P w = .ok (.enter f args) w ∧ Calls P f args w R)
/-- A round of a loop over a function. -/
def Rounds (P : Program) (l : Nat) (args : Array Value) (w : World) (R : Ending → World → Prop) : Prop :=
  ∃ f tmps asg bd, (Instr.yield l args).run P w = .ok (.round l f tmps asg bd) w ∧ ∀ (c : Frame) (cs : List Frame), ∃ e w', R e w' ∧ match e with
    | .returned v => Steps P (lone (Frame.round l f tmps asg bd .normal) (c :: cs) w) (lone (c.finish v) cs w')
    | .panicked ch => Steps P (lone (Frame.round l f tmps asg bd .normal) (c :: cs) w) (lone (c.raise ch) cs w')
    | .outgrown => False

/-- What a piece of a run makes of the counter and of the heap's numbers. -/
def Ext (c : Nat) (h : Heap) (c' : Nat) (h' : Heap) : Prop := c ≤ c' ∧ ∀ id, h'.get id ≠ none → h.get id ≠ none ∨ (c ≤ id ∧ id < c')
theorem Ext.refl (c : Nat) (h : Heap) : Ext c h c h := ⟨Nat.le_refl _, fun _ e => .inl e⟩
theorem Ext.trans {c c' c'' : Nat} {h h' h'' : Heap} (a : Ext c h c' h') (b : Ext c' h' c'' h'') : Ext c h c'' h'' :=
  ⟨Nat.le_trans a.1 b.1, fun id e => by
    have := a.1; have := b.1
    rcases b.2 id e with e | e
    · rcases a.2 id e with e | e
      · exact .inl e
      · exact .inr (by omega)
    · exact .inr (by omega)⟩
theorem Ext.new (c : Nat) (h : Heap) (ob : CObj) : Ext c h (c + 1) (h.set c ob) := ⟨Nat.le_succ _, fun id e => by
  rw [Tr.get_set] at e
  by_cases hid : c = id
  · exact .inr (by omega)
  · rw [if_neg hid] at e; exact .inl e⟩
theorem Ext.upd {c : Nat} {h : Heap} {b : Nat} {ob : CObj} (hb : h.get b ≠ none) : Ext c h c (h.set b ob) := ⟨Nat.le_refl _, fun id e => by
  rw [Tr.get_set] at e
  by_cases hid : b = id
  · subst hid; exact .inl hb
  · rw [if_neg hid] at e; exact .inl e⟩
theorem Ext.move (c : Nat) (h : Heap) (b : Nat) (ob : CObj) : Ext c h (c + 1) ((h.del b).set c ob) := ⟨Nat.le_succ _, fun id e => by
  rw [Tr.get_set] at e
  by_cases hid : c = id
  · exact .inr (by omega)
  · rw [if_neg hid, Tr.get_del] at e
    split at e
    · exact absurd rfl e
    · exact .inl e⟩

/-- What a handler owes. -/
structure HOk (κ : Nat → Value) (P : Program) (B : Bd) (G : Nat) (H : Handler) : Prop where
  ext : ∀ {q c h ot c' h'}, H q c h = some (ot, c', h') → Ext c h c' h'
  fn : ∀ {f args c h ot c' h'}, H (.fn f args) c h = some (ot, c', h') → ∀ {φ w args'}, fresh φ c c' → Rel κ P B G φ h w → G ≤ c → B.n ≤ w.heap.size → VL κ φ args args' →
    Ran P f ⟨args'⟩ w fun e w' => ∃ φ', Stp κ P B G c c' φ φ' h h' w w' ∧ OtR κ φ' ot e
  rnd : ∀ {l args c h ot c' h'}, H (.rnd l args) c h = some (ot, c', h') → ∀ {φ w args' p}, fresh φ c c' → Rel κ P B G φ h w → G ≤ c → B.n ≤ w.heap.size → VL κ φ args args' → φ l = some p →
    Rounds P p.β ⟨args'⟩ w fun e w' => ∃ φ', Stp κ P B G c c' φ φ' h h' w w' ∧ OtR κ φ' ot e
  dfd : ∀ {f args u c h ot c' h'}, H (.dfd f args u) c h = some (ot, c', h') → ∀ {φ w args' um}, fresh φ c c' → Rel κ P B G φ h w → G ≤ c → B.n ≤ w.heap.size → VL κ φ args args' → UR κ φ u um →
    (callFunc f ⟨args'⟩).run P w = .ok (.enter f ⟨args'⟩) w ∧ CallsD P f ⟨args'⟩ um w fun e um' w' => ∃ φ', Stp κ P B G c c' φ φ' h h' w w' ∧ ∃ v u' v', ot = .ret v u' ∧ e = .returned v' ∧ UR κ φ' u' um'

section
variable {κ : Nat → Value} {P : Program} {B : Bd} {G : Nat} {φ : Phi} {h h' : Heap} {w : World} {c c' : Nat} {ev : Operand → Value} {v : Value} {b : Frame} {a : Act} {CS : FrameMode → List Frame}

/-- An operation that comes to a value. -/
def ValOk (κ : Nat → Value) (P : Program) (B : Bd) (G : Nat) (c c' : Nat) (φ : Phi) (h h' : Heap) (w : World) (b : Frame) (a : Act) (CS : FrameMode → List Frame) (um : FrameMode) (o : Oper) (v : Value) (u' : U) : Prop :=
  ∀ (ops : Array Oper) (i : Nat) (rest : List Nat) (k : List Item), ops[i]? = some o → Region.wanted o (yielded ops a.tmps) = true →
    ∃ φ' w' um' v', Stp κ P B G c c' φ φ' h h' w w' ∧ V κ φ' v v' ∧ UR κ φ' u' um' ∧
    Steps P (lone (b.atR a (.inRegion ops (i :: rest) :: k)) (CS um) w) (lone (b.atR (a.put o.dst v') (.inRegion ops rest :: k)) (CS um') w')
def PanOk (κ : Nat → Value) (P : Program) (B : Bd) (G : Nat) (c c' : Nat) (φ : Phi) (h h' : Heap) (w : World) (b : Frame) (a : Act) (CS : FrameMode → List Frame) (um : FrameMode) (o : Oper) (v : Value) : Prop :=
  ∀ (ops : Array Oper) (i : Nat) (rest : List Nat) (k : List Item), ops[i]? = some o → Region.wanted o (yielded ops a.tmps) = true →
    ∃ φ' w' v', Stp κ P B G c c' φ φ' h h' w w' ∧ V κ φ' v v' ∧
    Steps P (lone (b.atR a (.inRegion ops (i :: rest) :: k)) (CS um) w) (lone { b.atR a (.inRegion ops (i :: rest) :: k) with mode := .panicking [{ v := v', recovered := false }] } (CS um) w')

theorem val_of_run {um : FrameMode} {u : U} {o : Oper} {φ' : Phi} {w' : World} {v' : Value} (hd : ∀ c, o.op ≠ .defer c) (hr : (execOp a.eval o).run P w = .ok (.value v') w') (hs : Stp κ P B G c c' φ φ' h h' w w') (hV : V κ φ' v v') (hu : UR κ φ' u um) :
    ValOk κ P B G c c' φ h h' w b a CS um o v u :=
  fun ops i rest k ho hw => ⟨φ', w', um, v', hs, hV, hu, .one (st_value ho hw hd hr)⟩
theorem val_of_skip {um : FrameMode} {u : U} {o : Oper} {φ' : Phi} {w' : World} (hd : ∀ c, o.op ≠ .defer c) (hr : (execOp a.eval o).run P w = .ok .skip w') (hs : Stp κ P B G c c' φ φ' h h' w w') (hu : UR κ φ' u um) :
    ValOk κ P B G c c' φ h h' w b a CS um o undef u :=
  fun ops i rest k ho hw => ⟨φ', w', um, undef, hs, .af rfl, hu, .one (st_skip ho hw hd hr)⟩

/-- What becomes of an operation that makes a call. -/
def CallOk (κ : Nat → Value) (P : Program) (B : Bd) (G : Nat) (c c' : Nat) (φ : Phi) (h h' : Heap) (w : World) (b : Frame) (a : Act) (CS : FrameMode → List Frame) (um : FrameMode) (o : Oper) (u : U) : Ot → Prop
  | .ret v _ => ValOk κ P B G c c' φ h h' w b a CS um o v u
  | .pan v => PanOk κ P B G c c' φ h h' w b a CS um o v

theorem call_of_ran {um : FrameMode} {u : U} {o : Oper} {f : FuncId} {args : Array Value} {ot : Ot} (hf : fresh φ c c') (hd : ∀ c, o.op ≠ .defer c) (he : (execOp a.eval o).run P w = (callFunc f args).run P w)
    (hR : Ran P f args w fun e w' => ∃ φ', Stp κ P B G c c' φ φ' h h' w w' ∧ OtR κ φ' ot e) (hu : UR κ φ u um) : CallOk κ P B G c c' φ h h' w b a CS um o u ot := by
  rcases hR with ⟨v', w', hr, φ', hs, hot⟩ | ⟨hr, hc⟩
  · cases ot with
    | ret v uu => exact val_of_run hd (he.trans hr) hs hot (hu.mono (hs.le hf))
    | pan v => exact hot.elim
  · cases ot with
    | ret v uu =>
      intro ops i rest k ho hw
      obtain ⟨e, w', fr, ⟨φ', hs, hot⟩, hsteps, hfn, hlv⟩ := hc (b.atR a (.inRegion ops (i :: rest) :: k) :: CS um)
      cases e with
      | returned v' =>
        refine ⟨φ', w', um, v', hs, hot, hu.mono (hs.le hf), ?_⟩
        have h1 := st_enter (k := k) (rest := rest) (cs := CS um) (b := b) ho hw hd (he.trans hr)
        have h2 := step_leave_returned (c := b.atR a (.inRegion ops (i :: rest) :: k)) (cs := CS um) hlv
        rw [Frame.finish_atR, ho] at h2
        exact .head h1 (Steps.trans hsteps (.one h2))
      | panicked ch => exact hot.elim
      | outgrown => exact hot.elim
    | pan v =>
      intro ops i rest k ho hw
      obtain ⟨e, w', fr, ⟨φ', hs, hot⟩, hsteps, hfn, hlv⟩ := hc (b.atR a (.inRegion ops (i :: rest) :: k) :: CS um)
      cases e with
      | returned v' => exact hot.elim
      | panicked ch =>
        obtain ⟨v', rfl, hV⟩ := hot
        refine ⟨φ', w', v', hs, hV, ?_⟩
        have h1 := st_enter (k := k) (rest := rest) (cs := CS um) (b := b) ho hw hd (he.trans hr)
        have h2 := step_leave_panicked (c := b.atR a (.inRegion ops (i :: rest) :: k)) (cs := CS um) hlv
        rw [Frame.raise_atR] at h2
        exact .head h1 (Steps.trans hsteps (.one h2))
      | outgrown => exact hot.elim
theorem call_of_rounds {um : FrameMode} {u : U} {o : Oper} {l : Nat} {args : Array Value} {ot : Ot} (hf : fresh φ c c') (hd : ∀ c, o.op ≠ .defer c) (he : (execOp a.eval o).run P w = (Instr.yield l args).run P w)
    (hR : Rounds P l args w fun e w' => ∃ φ', Stp κ P B G c c' φ φ' h h' w w' ∧ OtR κ φ' ot e) (hu : UR κ φ u um) : CallOk κ P B G c c' φ h h' w b a CS um o u ot := by
  obtain ⟨f, tmps, asg, bd, hr, hc⟩ := hR
  cases ot with
  | ret v uu =>
    intro ops i rest k ho hw
    obtain ⟨e, w', ⟨φ', hs, hot⟩, hsteps⟩ := hc (b.atR a (.inRegion ops (i :: rest) :: k)) (CS um)
    have h1 := st_round (k := k) (rest := rest) (cs := CS um) (b := b) ho hw hd (he.trans hr)
    cases e with
    | returned v' =>
      refine ⟨φ', w', um, v', hs, hot, hu.mono (hs.le hf), ?_⟩
      simp only at hsteps
      rw [Frame.finish_atR, ho] at hsteps
      exact .head h1 hsteps
    | panicked ch => exact hot.elim
    | outgrown => exact hot.elim
  | pan v =>
    intro ops i rest k ho hw
    obtain ⟨e, w', ⟨φ', hs, hot⟩, hsteps⟩ := hc (b.atR a (.inRegion ops (i :: rest) :: k)) (CS um)
    have h1 := st_round (k := k) (rest := rest) (cs := CS um) (b := b) ho hw hd (he.trans hr)
    cases e with
    | returned v' => exact hot.elim
    | panicked ch =>
      obtain ⟨v', rfl, hV⟩ := hot
      refine ⟨φ', w', v', hs, hV, ?_⟩
      simp only at hsteps
      rw [Frame.raise_atR] at hsteps
      exact .head h1 hsteps
    | outgrown => exact hot.elim
end
end Go.Qe
end
section
set_option linter.unusedVariables false
set_option linter.unusedSimpArgs false
namespace Go.Qe
section
variable {κ : Nat → Value} {P : Program} {B : Bd} {G : Nat} {φ : Phi} {h h' : Heap} {w : World} {c c' : Nat} {ev : Operand → Value} {v : Value} {b : Frame} {a : Act} {CS : FrameMode → List Frame} {H : Handler} {idf : Nat → Bool} {u : U} {um : FrameMode} {dk : Bool}

/-- What a heavy operation owes. -/
def XOk (κ : Nat → Value) (P : Program) (B : Bd) (G : Nat) (c : Nat) (φ : Phi) (h : Heap) (w : World) (b : Frame) (a : Act) (CS : FrameMode → List Frame) (um : FrameMode) (o : Oper) : XR → Prop
  | .val v c' h' u' => fresh φ c c' → ValOk κ P B G c c' φ h h' w b a CS um o v u'
  | .pan v c' h' => fresh φ c c' → PanOk κ P B G c c' φ h h' w b a CS um o v
  | .dfr d => ∃ d', DV κ φ d d' ∧ (execOp a.eval o).run P w = .ok (.defer d') w ∧ ∃ cl, o.op = .defer cl

theorem hop_store {t : TypeId} {x y : Operand} {d : Option Tmp} {ty : TypeId} {pos : String} {aft : Array Edge} {g : Option (Nat × Bool)} {xr : XR}
    (hh : hop P H idf c h u dk ev ⟨d, .store t x y, ty, pos, aft, g⟩ = some xr) (hO : ∀ z ∈ (Op.store t x y).operands, V κ φ (ev z) (a.eval z)) (hR : Rel κ P B G φ h w) (hu : UR κ φ u um) :
    XOk κ P B G c φ h w b a CS um ⟨d, .store t x y, ty, pos, aft, g⟩ xr := by
  simp only [hop] at hh
  have hx := hO x (by simp [Op.operands])
  have hy := hO y (by simp [Op.operands])
  split at hh
  · rename_i bb off e
    split at hh
    · rename_i m el cs hg
      split at hh
      · rename_i n hm hn
        split at hh
        · rename_i hcond
          simp only [fV_eq, Tr.setK_eq, Option.some.injEq] at hh
          subst hh
          simp only [Bool.and_eq_true] at hcond
          obtain ⟨⟨⟨h1, h2⟩, h3⟩, h4⟩ := hcond
          have h1' := Nat.eq_of_beq_eq_true h1
          have h2' := Nat.le_of_ble_eq_true h2
          have hm' : m < 2 := Nat.le_of_ble_eq_true hm
          rw [e] at hx
          obtain ⟨_, p, hp, hr⟩ := hx.ptrI
          have hyc := hy.cells
          have hlen : (ev y).cells.toList.length = n := by rw [← h1']; exact Array.length_toList
          obtain ⟨w', hrun, hs⟩ := stp_store (c := c) (o' := p.o + off) hR hg hm' hp (fun _ => rfl) (by rw [hlen]; exact h2') hyc h3
          intro hf
          refine val_of_skip (fun c e => by cases e) ?_ hs hu
          refine run_u (s := Instr.storeAt t (a.eval x) (a.eval y)) ?_
          have hsz : (a.eval y).cells.size = n := by have := hyc.length; rw [hlen] at this; rw [← this]; exact Array.length_toList.symm
          simp only [Instr.storeAt, hr, Instr.sureAddr, Sem.run_bind, Sem.run_pure, Result.andThen_ok, storeVar, run_sizeT hn]
          rw [if_neg (by simp [hsz])]
          exact hrun
        · cases hh
      · cases hh
    · cases hh
  · cases hh

theorem hop_panic {x : Operand} {d : Option Tmp} {ty : TypeId} {pos : String} {aft : Array Edge} {g : Option (Nat × Bool)} {xr : XR}
    (hh : hop P H idf c h u dk ev ⟨d, .panic x, ty, pos, aft, g⟩ = some xr) (hO : ∀ z ∈ (Op.panic x).operands, V κ φ (ev z) (a.eval z)) (hR : Rel κ P B G φ h w) :
    XOk κ P B G c φ h w b a CS um ⟨d, .panic x, ty, pos, aft, g⟩ xr := by
  simp only [hop] at hh
  have hx := hO x (by simp [Op.operands])
  split at hh
  · rename_i t v0 e
    simp only [Option.some.injEq] at hh
    subst hh
    rw [e] at hx
    obtain ⟨v', hr, hV⟩ := hx.ifaceI
    intro hf ops i rest k ho hw
    refine ⟨φ, w, .iface t v', Stp.refl hR, .iface hV, .one (st_panic ho hw (fun c e => by cases e) ?_)⟩
    simp [execOp, hr, Instr.panic, goPanic]
  · cases hh

theorem stp_iter {it : Nat} {s : ByteArray} {pos pos' : Nat} {r : Pl} (hR : Rel κ P B G φ h w) (hg : h.get it = some (.iter s pos)) (hr : φ it = some r) :
    Stp κ P B G c c φ φ h (h.set it (.iter s pos')) w { w with heap := w.heap.setIfInBounds r.β (.stringIter s pos') } := by
  obtain ⟨r0, x0, hr0, hx0, hob, hB⟩ := hR.obj it _ hg
  rw [hr] at hr0; cases hr0
  have hlt : r.β < w.heap.size := (Array.getElem?_eq_some_iff.1 hx0).1
  have hsame : (w.heap.setIfInBounds r.β (.stringIter s pos'))[r.β]? = some (.stringIter s pos') := by simp [hlt]
  have hoth : ∀ k, k ≠ r.β → (w.heap.setIfInBounds r.β (.stringIter s pos'))[k]? = w.heap[k]? := fun k hk => by
    rw [Array.getElem?_setIfInBounds, if_neg (by omega)]
  refine { cc := Nat.le_refl _, ext := fun _ _ => rfl, new := ?_, rel := ⟨?_, ?_, hR.glob, fun β hβ => (hoth β (fun e => by have := hB rfl; omega)).trans (hR.base β hβ)⟩, size := by simp, frame := ?_, own := ?_, tape := rfl, os := rfl, output := rfl }
  · intro id e1
    rw [Tr.get_set] at e1
    by_cases hid : it = id
    · subst hid; exact .inl (by rw [hg]; simp)
    · rw [if_neg hid] at e1; exact .inl e1
  · intro id o1 e1
    rw [Tr.get_set] at e1
    by_cases hid : it = id
    · subst hid
      rw [if_pos rfl] at e1
      cases e1
      refine ⟨r, _, hr, hsame, ?_, fun _ => hB rfl⟩
      cases hob with
      | iter h0 => exact .iter h0
    · rw [if_neg hid] at e1
      obtain ⟨r1, x1, hr1, hx1, ho1, hB1⟩ := hR.obj id o1 e1
      refine ⟨r1, x1, hr1, ?_, ho1, hB1⟩
      show (w.heap.setIfInBounds r.β (.stringIter s pos'))[r1.β]? = _
      rw [hoth r1.β (fun eq => hR.inj it id _ o1 r r1 hg e1 rfl hid hr hr1 eq.symm), hx1]
  · intro id id' o1 o2 r1 r2 e1 e2 w1 ne f1 f2
    rw [Tr.get_set] at e1 e2
    by_cases hid : it = id
    · subst hid
      rw [if_pos rfl] at e1; cases e1
      rw [if_neg ne] at e2
      exact hR.inj it id' _ o2 r1 r2 hg e2 rfl ne f1 f2
    · rw [if_neg hid] at e1
      by_cases hid' : it = id'
      · subst hid'
        exact hR.inj id it o1 _ r1 r2 e1 hg w1 ne f1 f2
      · rw [if_neg hid'] at e2
        exact hR.inj id id' o1 o2 r1 r2 e1 e2 w1 ne f1 f2
  · intro β _ hn
    exact hoth β (fun eq => hn it _ r hg rfl hr eq.symm)
  · intro id o1 r1 e1 f1
    rw [Tr.get_set] at e1
    by_cases hid : it = id
    · subst hid
      exact .inl ⟨it, _, r1, hg, f1, rfl, fun _ => rfl⟩
    · rw [if_neg hid] at e1
      exact .inl ⟨id, o1, r1, e1, f1, rfl, fun q => q⟩

theorem hop_next {it : Operand} {bs : Bool} {d : Option Tmp} {ty : TypeId} {pos : String} {aft : Array Edge} {g : Option (Nat × Bool)} {xr : XR}
    (hbs : bs = true) (hh : hop P H idf c h u dk ev ⟨d, .next it bs, ty, pos, aft, g⟩ = some xr) (hO : ∀ z ∈ (Op.next it bs).operands, V κ φ (ev z) (a.eval z)) (hR : Rel κ P B G φ h w) (hu : UR κ φ u um) :
    XOk κ P B G c φ h w b a CS um ⟨d, .next it bs, ty, pos, aft, g⟩ xr := by
  subst hbs
  simp only [hop] at hh
  have hx := hO it (by simp [Op.operands])
  split at hh
  · rename_i bb e
    split at hh
    · rename_i s ps hg
      rw [e] at hx
      obtain ⟨_, p, hp, hr⟩ := hx.ptrI
      obtain ⟨r0, x0, hr0, hx0, hob, hB⟩ := hR.obj bb _ hg
      rw [hp] at hr0; cases hr0
      cases hob with
      | iter h0 =>
        rw [h0] at hr
        simp only [Nat.add_zero] at hr
        split at hh
        · rename_i hlt
          have hlt' : ps < s.size := Nat.le_of_ble_eq_true hlt
          simp only [fNat_eq, Tr.setK_eq, Option.some.injEq] at hh
          subst hh
          intro hf
          refine val_of_run (fun c e => by cases e) (w' := { w with heap := w.heap.setIfInBounds p.β (.stringIter s (ps + (Utf8.decode s ps).2)) }) (run_v (s := Instr.next (a.eval it) true ty) (v := .tuple ⟨[.bool true, .int .i64 ps, .int .i32 (Utf8.decode s ps).1]⟩) ?_) (stp_iter hR hg hp) (.af rfl) hu
          rw [hr]
          have hgo : (getObj p.β).run P w = .ok (.stringIter s ps) w := by simp [getObj, Sem.run, hx0]
          simp only [Instr.next, Sem.run_bind, hgo, Result.andThen_ok, hlt', if_true, setObj, Sem.run, hx0]
          rfl
        · rename_i hlt
          have hlt' : ¬ ps < s.size := fun hl => by rw [Nat.ble_eq_true_of_le (show ps + 1 ≤ s.size from hl) |> fun e => (show Nat.blt ps s.size = true from e)] at hlt; cases hlt
          simp only [Option.some.injEq] at hh
          subst hh
          intro hf
          refine val_of_run (fun c e => by cases e) (w' := w) (run_v (s := Instr.next (a.eval it) true ty) (v := .tuple ⟨[.bool false]⟩) ?_) (Stp.refl hR) (.af rfl) hu
          rw [hr]
          have hgo : (getObj p.β).run P w = .ok (.stringIter s ps) w := by simp [getObj, Sem.run, hx0]
          simp only [Instr.next, Sem.run_bind, hgo, Result.andThen_ok, hlt', if_false]
          rfl
    · cases hh
  · cases hh
end
end Go.Qe
end
section
set_option linter.unusedVariables false
set_option linter.unusedSimpArgs false
namespace Go.Qe
section
variable {κ : Nat → Value} {P : Program} {B : Bd} {G : Nat} {φ : Phi} {h h' : Heap} {w : World} {c c' : Nat} {ev : Operand → Value} {v : Value} {b : Frame} {a : Act} {CS : FrameMode → List Frame} {H : Handler} {idf : Nat → Bool} {u : U} {um : FrameMode} {dk : Bool}

theorem invk_sound {fn : Fn} {args cap args' cap' : List Value} {xr : XR} {o : Oper} (hH : HOk κ P B G H) (hh : invk H fn args cap c h = some xr) (hR : Rel κ P B G φ h w) (hG : G ≤ c) (hB : B.n ≤ w.heap.size) (ha : VL κ φ args args') (hc : VL κ φ cap cap')
    (hd : ∀ c, o.op ≠ .defer c) (hu : UR κ φ u um)
    (hex : ∀ f, fn = .func f → (execOp a.eval o).run P w = (callFunc f ⟨args' ++ cap'⟩).run P w) (hey : ∀ l p, fn = .yield l → φ l = some p → (execOp a.eval o).run P w = (Instr.yield p.β ⟨args'⟩).run P w)
    (hy : ∀ l, fn = .yield l → ∃ p, φ l = some p) :
    match xr with
    | .val v c' h' _ => fresh φ c c' → ValOk κ P B G c c' φ h h' w b a CS um o v u
    | .pan v c' h' => fresh φ c c' → PanOk κ P B G c c' φ h h' w b a CS um o v
    | .dfr _ => False := by
  have main : ∀ {ot c' h'}, (match fn with
    | .func f => H (.fn f (args ++ cap)) c h
    | .yield l => H (.rnd l args) c h
    | _ => none) = some (ot, c', h') → fresh φ c c' → CallOk κ P B G c c' φ h h' w b a CS um o u ot := by
    intro ot c' h' hq hf
    cases fn with
    | func f => exact call_of_ran hf hd (hex f rfl) (hH.fn hq hf hR hG hB (ha.append hc)) hu
    | yield l =>
      obtain ⟨p, hp⟩ := hy l rfl
      exact call_of_rounds hf hd (hey l p rfl hp) (hH.rnd hq hf hR hG hB ha hp) hu
    | _ => cases hq
  unfold invk at hh
  split at hh
  · rename_i v0 c0 h0 hq
    simp only [Option.some.injEq] at hh; subst hh
    intro hf
    exact main hq hf
  · rename_i v0 c0 h0 hq
    simp only [Option.some.injEq] at hh; subst hh
    intro hf
    exact main hq hf
  · cases hh

theorem exec_value (f : Operand) (args : Array Operand) (ts : Array TypeId) (d : Option Tmp) (ty : TypeId) (pos : String) (aft : Array Edge) (g : Option (Nat × Bool)) {fn : Fn} {fs cs : List Value} {ρ : Operand → Value} (hf : ρ f = .func fn ⟨fs⟩ ⟨cs⟩) (w : World) :
    (execOp ρ ⟨d, .call ⟨.value f, args, ts⟩, ty, pos, aft, g⟩).run P w = (invoke (.fn fn ⟨cs⟩) (⟨fs⟩ ++ args.map ρ)).run P w := by
  show (do let d ← resolve ρ ⟨.value f, args, ts⟩ ty; invoke d.target d.args : Sem Next).run P w = _
  unfold resolve
  simp only [hf, Deferred.ofValue, Sem.run_bind, Sem.run_pure, Result.andThen_ok]

theorem hop_value {f : Operand} {args : Array Operand} {ts : Array TypeId} {d : Option Tmp} {ty : TypeId} {pos : String} {aft : Array Edge} {g : Option (Nat × Bool)} {xr : XR}
    (hH : HOk κ P B G H) (hid : ∀ f, idf f = true → ∀ v w, (callFunc f #[v]).run P w = .ok (.value v) w)
    (hh : hop P H idf c h u dk ev ⟨d, .call ⟨.value f, args, ts⟩, ty, pos, aft, g⟩ = some xr) (hO : ∀ z ∈ (Op.call ⟨.value f, args, ts⟩).operands, V κ φ (ev z) (a.eval z)) (hR : Rel κ P B G φ h w) (hG : G ≤ c) (hB : B.n ≤ w.heap.size) (hu : UR κ φ u um) :
    XOk κ P B G c φ h w b a CS um ⟨d, .call ⟨.value f, args, ts⟩, ty, pos, aft, g⟩ xr := by
  simp only [hop] at hh
  have hfv := hO f (by simp [Op.operands, Call.operands])
  obtain ⟨al⟩ := args
  have hargs : VL κ φ (al.map ev) (al.map a.eval) := VL.map_op fun y hy => hO y (by simp [Op.operands, Call.operands, hy])
  split at hh
  · rename_i fn first cap e
    obtain ⟨first⟩ := first
    obtain ⟨cap⟩ := cap
    rw [e] at hfv
    simp only at hh
    have hres : ∃ fn' fs' cs', a.eval f = .func fn' ⟨fs'⟩ ⟨cs'⟩ ∧ VL κ φ first fs' ∧ VL κ φ cap cs' ∧ (∀ g, fn = .func g → fn' = .func g) ∧ (∀ l, fn = .yield l → ∃ p, φ l = some p ∧ fn' = .yield p.β ∧ fs' = [] ∧ cs' = [] ∧ first = [] ∧ cap = []) := by
      cases hn : noYield fn with
      | true =>
        obtain ⟨fs', cs', hr, hf1, hf2⟩ := hfv.fnI hn
        exact ⟨fn, fs', cs', hr, hf1, hf2, fun g e => e, fun l e => by rw [e] at hn; cases hn⟩
      | false =>
        cases fn with
        | yield l =>
          obtain ⟨rfl, rfl, p, hp, hr⟩ := hfv.yldI
          refine ⟨.yield p.β, [], [], hr, VL.nil, VL.nil, ?_, ?_⟩
          · intro g eg; exact absurd eg (by simp)
          · intro l' el; cases el; exact ⟨p, hp, rfl, rfl, rfl, rfl, rfl⟩
        | _ => cases hn
    obtain ⟨fn', fs', cs', hr, hfs, hcs, hfn, hyl⟩ := hres
    have hex := exec_value (P := P) f ⟨al⟩ ts d ty pos aft g hr w
    split at hh
    · rename_i x hx
      simp only [Option.some.injEq] at hh
      subst hh
      split at hx
      · rename_i g0 
        split at hx
        · rename_i x0 hi hl
          simp only [Option.some.injEq] at hx
          subst hx
          have hcs0 : cs' = [] := by cases hcs; rfl
          subst hcs0
          have hVx := hfs.append hargs
          rw [hl] at hVx
          cases hVx' : fs' ++ al.map a.eval with
          | nil => rw [hVx'] at hVx; cases hVx
          | cons y ys =>
            rw [hVx'] at hVx
            cases hVx with
            | cons hxy hnil =>
              cases hnil
              intro hf
              refine val_of_run (fun c e => by cases e) (w' := w) ?_ (Stp.refl hR) hxy hu
              rw [hex, hfn g0 rfl]
              show (callFunc g0 ((⟨fs'⟩ ++ (⟨al⟩ : Array Operand).map a.eval) ++ ⟨[]⟩)).run P w = _
              have : ((⟨fs'⟩ : Array Value) ++ (⟨al⟩ : Array Operand).map a.eval) ++ (⟨[]⟩ : Array Value) = #[y] := by
                apply Array.ext'
                simp [hVx']
              rw [this]
              exact hid g0 hi y w
        · cases hx
      · cases hx
    · have hinv := fun xr2 (hq : invk H fn (first ++ al.map ev) cap c h = some xr2) => invk_sound (b := b) (a := a) (CS := CS) (o := ⟨d, .call ⟨.value f, ⟨al⟩, ts⟩, ty, pos, aft, g⟩) hH hq hR hG hB (hfs.append hargs) hcs (fun c e => by cases e) hu
        (fun g0 eg => by
          rw [hex, hfn g0 eg]
          show (callFunc g0 _).run P w = _
          congr 2
          apply Array.ext'; simp)
        (fun l p el hp => by
          obtain ⟨p', hp', hfn', rfl, rfl, rfl, rfl⟩ := hyl l el
          rw [hp] at hp'; cases hp'
          rw [hex, hfn']
          show (Instr.yield p.β _).run P w = _
          congr 2
          apply Array.ext'; simp)
        (fun l el => by obtain ⟨p, hp, _⟩ := hyl l el; exact ⟨p, hp⟩)
      split at hh
      · rename_i v0 c0 h0 u0 hq
        simp only [Option.some.injEq] at hh; subst hh
        exact hinv _ hq
      · rename_i hne
        cases hq : invk H fn (first ++ al.map ev) cap c h with
        | none => rw [hq] at hh; cases hh
        | some xr2 =>
          rw [hq] at hh
          simp only [Option.some.injEq] at hh
          subst hh
          have := hinv _ hq
          cases xr2 with
          | val v0 c0 h0 u0 => exact absurd hq (hne _ _ _ _)
          | pan v0 c0 h0 => exact this
          | dfr d0 => exact this.elim
  · cases hh
end
end Go.Qe
end
section
set_option linter.unusedVariables false
set_option linter.unusedSimpArgs false
namespace Go.Qe
section
variable {κ : Nat → Value} {P : Program} {B : Bd} {G : Nat} {φ : Phi} {h h' : Heap} {w w' : World} {c c' : Nat} {ev : Operand → Value} {v : Value} {b : Frame} {a : Act} {CS : FrameMode → List Frame} {H : Handler} {idf : Nat → Bool} {u : U} {um : FrameMode} {dk : Bool}

/-- An object turns into another at its place. -/
theorem stp_set {id0 : Nat} {o o' : CObj} {r : Pl} {x' : Obj} (hR : Rel κ P B G φ h w) (hb : h.get id0 = some o) (hwr : wr o = true)
    (hr : φ id0 = some r) (hw' : w'.heap[r.β]? = some x') (ho : ∀ k, k ≠ r.β → w'.heap[k]? = w.heap[k]?)
    (hsz : w'.heap.size = w.heap.size) (htape : w'.tape = w.tape) (hos : w'.os = w.os) (hout : w'.output = w.output)
    (hV : ObjR κ P φ o' r x') : Stp κ P B G c c φ φ h (h.set id0 o') w w' := by
  obtain ⟨r0, x0, hr0, hx0, hob, hB⟩ := hR.obj id0 _ hb
  rw [hr] at hr0; cases hr0
  refine { cc := Nat.le_refl _, ext := fun _ _ => rfl, new := ?_, rel := ⟨?_, ?_, hR.glob, fun β hβ => (ho β (fun e => by have := hB hwr; omega)).trans (hR.base β hβ)⟩, size := by omega, frame := ?_, own := ?_, tape := htape, os := hos, output := hout }
  · intro id e1
    rw [Tr.get_set] at e1
    by_cases hid : id0 = id
    · subst hid; exact .inl (by rw [hb]; simp)
    · rw [if_neg hid] at e1; exact .inl e1
  · intro id o1 e1
    rw [Tr.get_set] at e1
    by_cases hid : id0 = id
    · subst hid
      rw [if_pos rfl] at e1
      cases e1
      exact ⟨r, _, hr, hw', hV, fun _ => hB hwr⟩
    · rw [if_neg hid] at e1
      obtain ⟨r1, x1, hr1, hx1, ho1, hB1⟩ := hR.obj id o1 e1
      refine ⟨r1, x1, hr1, ?_, ho1, hB1⟩
      rw [ho r1.β (fun eq => hR.inj id0 id _ o1 r r1 hb e1 hwr hid hr hr1 eq.symm), hx1]
  · intro id id' o1 o2 r1 r2 e1 e2 w1 ne f1 f2
    rw [Tr.get_set] at e1 e2
    by_cases hid : id0 = id
    · subst hid
      rw [if_pos rfl] at e1; cases e1
      rw [if_neg ne] at e2
      exact hR.inj id0 id' _ o2 r1 r2 hb e2 hwr ne f1 f2
    · rw [if_neg hid] at e1
      by_cases hid' : id0 = id'
      · subst hid'
        exact hR.inj id id0 o1 _ r1 r2 e1 hb w1 ne f1 f2
      · rw [if_neg hid'] at e2
        exact hR.inj id id' o1 o2 r1 r2 e1 e2 w1 ne f1 f2
  · intro β _ hn
    exact ho β (fun eq => hn id0 _ r hb hwr hr eq.symm)
  · intro id o1 r1 e1 f1
    rw [Tr.get_set] at e1
    by_cases hid : id0 = id
    · subst hid
      exact .inl ⟨id0, _, r1, hb, f1, rfl, fun _ => hwr⟩
    · rw [if_neg hid] at e1
      exact .inl ⟨id, o1, r1, e1, f1, rfl, fun q => q⟩

/-- An object goes on under another number, in its own block. -/
theorem stp_move {id0 : Nat} {o o' : CObj} {r r' : Pl} {x' : Obj} (hR : Rel κ P B G φ h w) (hc : φ c = none) (hG : G ≤ c) (hb : h.get id0 = some o) (hwr : wr o = true)
    (hr : φ id0 = some r) (hβ : r'.β = r.β) (hw' : w'.heap[r.β]? = some x') (ho : ∀ k, k ≠ r.β → w'.heap[k]? = w.heap[k]?)
    (hsz : w'.heap.size = w.heap.size) (htape : w'.tape = w.tape) (hos : w'.os = w.os) (hout : w'.output = w.output)
    (hV : ObjR κ P (φ.upd c r') o' r' x') : Stp κ P B G c (c + 1) φ (φ.upd c r') h ((h.del id0).set c o') w w' := by
  obtain ⟨r0, x0, hr0, hx0, hob, hB⟩ := hR.obj id0 _ hb
  rw [hr] at hr0; cases hr0
  have hle := Phi.le_upd r' hc
  have hne : ∀ id r1, φ id = some r1 → id ≠ c := fun id r1 e eq => by rw [eq, hc] at e; cases e
  have hget : ∀ id, ((h.del id0).set c o').get id = if c = id then some o' else if id0 = id then none else h.get id := by
    intro id
    rw [Tr.get_set]
    split
    · rfl
    · rw [Tr.get_del]
  have hold : ∀ id r1, id ≠ c → (φ.upd c r') id = some r1 → φ id = some r1 := fun id r1 hne e => by rwa [Phi.upd_ne _ _ hne] at e
  refine { cc := Nat.le_succ _, ext := fun id hid => Phi.upd_ne _ _ (fun e => hid (by omega)), new := ?_, rel := ⟨?_, ?_, ?_, fun β hβ => (ho β (fun e => by have := hB hwr; omega)).trans (hR.base β hβ)⟩, size := by omega, frame := ?_, own := ?_, tape := htape, os := hos, output := hout }
  · intro id e1
    rw [hget] at e1
    by_cases hid : c = id
    · exact .inr (by omega)
    · rw [if_neg hid] at e1
      by_cases hid2 : id0 = id
      · rw [if_pos hid2] at e1; exact absurd rfl e1
      · rw [if_neg hid2] at e1; exact .inl e1
  · intro id o1 e1
    rw [hget] at e1
    by_cases hid : c = id
    · subst hid
      rw [if_pos rfl] at e1; cases e1
      exact ⟨r', x', φ.upd_self c r', by rw [hβ]; exact hw', hV, fun _ => by rw [hβ]; exact hB hwr⟩
    · rw [if_neg hid] at e1
      by_cases hid2 : id0 = id
      · rw [if_pos hid2] at e1; cases e1
      · rw [if_neg hid2] at e1
        obtain ⟨r1, x1, hr1, hx1, ho1, hB1⟩ := hR.obj id o1 e1
        refine ⟨r1, x1, hle _ _ hr1, ?_, ho1.mono hle, hB1⟩
        rw [ho r1.β (fun eq => hR.inj id0 id _ o1 r r1 hb e1 hwr hid2 hr hr1 eq.symm), hx1]
  · intro id id' o1 o2 r1 r2 e1 e2 w1 ne f1 f2
    rw [hget] at e1 e2
    by_cases hid : c = id
    · subst hid
      rw [φ.upd_self] at f1; cases f1
      rw [if_neg ne] at e2
      by_cases hid2 : id0 = id'
      · rw [if_pos hid2] at e2; cases e2
      · rw [if_neg hid2] at e2
        rw [hβ]
        exact hR.inj id0 id' _ o2 r r2 hb e2 hwr hid2 hr (hold id' r2 (fun e => ne e.symm) f2)
    · rw [if_neg hid] at e1
      by_cases hid3 : id0 = id
      · rw [if_pos hid3] at e1; cases e1
      rw [if_neg hid3] at e1
      have f1' := hold id r1 (fun e => hid e.symm) f1
      by_cases hid' : c = id'
      · subst hid'
        rw [φ.upd_self] at f2; cases f2
        rw [hβ]
        exact (hR.inj id id0 o1 _ r1 r e1 hb w1 (fun e => hid3 e.symm) f1' hr)
      · rw [if_neg hid'] at e2
        by_cases hid2 : id0 = id'
        · rw [if_pos hid2] at e2; cases e2
        · rw [if_neg hid2] at e2
          exact hR.inj id id' o1 o2 r1 r2 e1 e2 w1 ne f1' (hold id' r2 (fun e => hid' e.symm) f2)
  · intro g hg
    obtain ⟨r1, hr1, a, b⟩ := hR.glob g hg
    exact ⟨r1, hle _ _ hr1, a, b⟩
  · intro β _ hn
    exact ho β (fun eq => hn id0 _ r hb hwr hr eq.symm)
  · intro id o1 r1 e1 f1
    rw [hget] at e1
    by_cases hid : c = id
    · subst hid
      rw [φ.upd_self] at f1; cases f1
      exact .inl ⟨id0, _, r, hb, hr, hβ.symm, fun _ => hwr⟩
    · rw [if_neg hid] at e1
      by_cases hid2 : id0 = id
      · rw [if_pos hid2] at e1; cases e1
      · rw [if_neg hid2] at e1
        exact .inl ⟨id, o1, r1, e1, hold id r1 (fun e => hid e.symm) f1, rfl, fun q => q⟩

theorem putAt_row (l : List Value) : ∀ (rs : List Value) (o : Nat), o + l.length ≤ rs.length → putAt rs o l = rs.take o ++ l ++ rs.drop (o + l.length) := by
  induction l with
  | nil => intro rs o ho; simp [putAt]
  | cons v l ih =>
    intro rs o ho
    simp only [List.length_cons] at ho
    rw [putAt, ih _ _ (by simp; omega)]
    have h1 : (rs.set o v).take (o + 1) = rs.take o ++ [v] := by
      rw [List.take_add_one, List.take_set_of_le (by omega), List.getElem?_set]
      simp; omega
    rw [h1, List.drop_set_of_lt (by omega)]
    simp only [List.append_assoc, List.cons_append, List.nil_append, List.length_cons]
    congr 3
    congr 1
    omega

/-- A row's part, and what is put right behind it. -/
theorem putAt_part {rs l : List Value} {o n : Nat} (h : o + n + l.length ≤ rs.length) : ((putAt rs (o + n) l).drop o).take (n + l.length) = (rs.drop o).take n ++ l := by
  rw [putAt_row l rs (o + n) h]
  rw [List.append_assoc, List.drop_append_of_le_length (by simp; omega), List.drop_take]
  have e : o + n - o = n := by omega
  rw [e]
  have hl : (List.take n (List.drop o rs)).length = n := by simp; omega
  rw [List.take_append, hl, List.take_of_length_le (by omega)]
  have e2 : n + l.length - n = l.length := by omega
  rw [e2, List.take_append_of_le_length (Nat.le_refl _), List.take_of_length_le (Nat.le_refl _)]

theorem two_args {ts : Array TypeId} {d : TypeDesc} (h : (ts[1]?).bind P.underlying = some d) : ∃ t, ts[1]? = some t ∧ P.underlying t = some d := by
  cases ht : ts[1]? with
  | none => simp [ht] at h
  | some t => exact ⟨t, rfl, by simpa [ht] using h⟩
end
end Go.Qe
end
section
set_option linter.unusedVariables false
set_option linter.unusedSimpArgs false
namespace Go.Qe
section
variable {κ : Nat → Value} {P : Program} {B : Bd} {G : Nat} {φ : Phi} {h h' : Heap} {w w' : World} {c c' : Nat} {ev : Operand → Value} {v : Value} {b : Frame} {a : Act} {CS : FrameMode → List Frame} {H : Handler} {idf : Nat → Bool} {u : U} {um : FrameMode} {dk : Bool}

theorem zeroCells_size (z : Array Value) (k : Nat) : (Builtin.zeroCells z k).toList.length = k * z.size := by
  simp [Builtin.zeroCells]

/-- A row that an append makes anew. -/
theorem grown_row {old new old' new' zs : List Value} {len n cap sz es : Nat} {el : TypeId} (hV1 : VL κ φ old old') (hV2 : VL κ φ new new') (h1 : old.length = len * sz) (h2 : new.length = n * sz) (hes : P.cellsOf el = sz)
    (hz : zs.length = (cap - (len + n)) * sz) (hcap : len + n ≤ cap) (β : Nat) :
    ObjR κ P φ (.cells 0 el (old ++ new)) ⟨β, 0, P.cellsOf el, (old' ++ new' ++ zs).length⟩ (.cells ⟨old' ++ new' ++ zs⟩ el (0, 0)) ∧ 0 + cap * P.cellsOf el ≤ (old' ++ new' ++ zs).length := by
  have l1 := hV1.length
  have l2 := hV2.length
  refine ⟨.cells rfl rfl ?_ ?_ (fun _ i _ => by simp) (fun e => by cases e), ?_⟩
  · simp [l1, l2]
  · have := hV1.append hV2
    rw [List.drop_zero, show (old ++ new).length = (old' ++ new').length by simp [l1, l2], List.take_append_of_le_length (Nat.le_refl _), List.take_of_length_le (Nat.le_refl _)]
    exact this
  · obtain ⟨k, rfl⟩ : ∃ k, cap = len + n + k := ⟨cap - (len + n), by omega⟩
    have : len + n + k - (len + n) = k := by omega
    rw [this] at hz
    simp only [List.length_append, l1, l2, h1, h2, hz, hes, Nat.add_mul]
    omega

theorem hop_append {args : Array Operand} {ts : Array TypeId} {d : Option Tmp} {ty : TypeId} {pos : String} {aft : Array Edge} {g : Option (Nat × Bool)} {xr : XR}
    (hh : hop P H idf c h u dk ev ⟨d, .call ⟨.builtin .append, args, ts⟩, ty, pos, aft, g⟩ = some xr) (hO : ∀ z ∈ (Op.call ⟨.builtin .append, args, ts⟩).operands, V κ φ (ev z) (a.eval z)) (hR : Rel κ P B G φ h w) (hG : G ≤ c) (hB : B.n ≤ w.heap.size) (hu : UR κ φ u um) :
    XOk κ P B G c φ h w b a CS um ⟨d, .call ⟨.builtin .append, args, ts⟩, ty, pos, aft, g⟩ xr := by
  simp only [hop] at hh
  have hO' : ∀ y ∈ args, V κ φ (ev y) (a.eval y) := fun y hy => hO y (by simp [Op.operands, Call.operands, hy])
  split at hh
  · rename_i s x el e hu0
    obtain ⟨a0, a1, rfl, ea, ex⟩ := map_two e
    have hs := hO' a0 (by simp)
    have hx := hO' a1 (by simp)
    rw [ea] at hs
    rw [ex] at hx
    obtain ⟨t, ht, hut⟩ := und_of_bind hu0
    have hargs : (#[a0, a1] : Array Operand).map a.eval = #[a.eval a0, a.eval a1] := by simp
    split at hh
    · rename_i sz i z n hsz hi hz hn hsl
      have hdx : ∃ tx dx, ts[1]? = some tx ∧ P.underlying tx = some dx ∧ (dx = .string ∨ ∃ e, dx = .slice e) := by
        split at hsl
        · rename_i e2 hq
          obtain ⟨tx, h1, h2⟩ := two_args hq
          exact ⟨tx, _, h1, h2, .inr ⟨_, rfl⟩⟩
        · rename_i hq
          obtain ⟨tx, h1, h2⟩ := two_args hq
          exact ⟨tx, _, h1, h2, .inl rfl⟩
        · cases hsl
      obtain ⟨tx, dx, htx, hux, hdx⟩ := hdx
      obtain ⟨i', hi', _, hco⟩ := info_of_sizeT hsz
      split at hh
      · rename_i new hnew hib hzs
        have hzs' := Nat.eq_of_beq_eq_true hzs
        obtain ⟨new', hVn, hrn⟩ := src_spec (P := P) hnew hn (Nat.le_refl _) hx hR
        split at hh
        · cases hh
        · rename_i hcond
          simp only [Bool.and_eq_true] at hcond
          have hnl := Nat.eq_of_beq_eq_true hcond.2
          have hoc := ocs_one hcond.1 hVn
          have hnl' := hVn.length
          have hlen := fun w : World => lenV_spec (P := P) hn hx w
          split at hh
          · rename_i l0 c0
            obtain ⟨rfl, rfl, hr⟩ := hs.slN
            split at hh
            · simp only [Option.some.injEq] at hh; subst hh
              intro hf
              refine val_of_run (fun c e => by cases e) (w' := w) (v' := .slice none 0 0) ?_ (Stp.refl hR) (.af rfl) hu
              rw [exec_builtin, hargs, hr]
              exact run_v (s := Builtin.append_ ts ty #[.slice none 0 0, a.eval a1]) (run_append_fits (sLen := 0) ht hut htx hux hdx hsz hlen hrn (Nat.le_refl _) (fun a e => by cases e) (fun _ => rfl))
            · rename_i n
              simp only [Nat.succ_eq_add_one] at hlen hrn hnl
              split at hh
              · rename_i hby
                have hby' := Nat.le_of_ble_eq_true hby
                rw [Nat.mul_succ] at hby'
                simp only [fV_eq, fNat_eq, Tr.setK_eq, Option.some.injEq] at hh
                subst hh
                intro hf
                obtain ⟨w', hrun, hheap, htape, hos, hout⟩ := run_append_grows (ty := ty) (sLen := 0) (sCap := 0) (base := none) (old := []) ht hut htx hux hdx hsz hi hz hlen hrn (fun w2 _ => by simp [Builtin.firstCells]) (by omega) (by rw [Nat.zero_add]; omega) (by omega)
                simp only [Nat.zero_add, List.nil_append] at hrun hheap
                have hcap := grownCap_ge w (n + 1) 0 el
                obtain ⟨ho, hle⟩ := grown_row (P := P) (el := el) (es := sz) (len := 0) (n := n + 1) (sz := sz) (cap := grownCap w (n + 1) 0 el) (zs := (Builtin.zeroCells z.cells (grownCap w (n + 1) 0 el - (n + 1))).toList) (κ := κ)
                  (VL.nil (φ := φ.upd c ⟨w.heap.size, 0, P.cellsOf el, ([] ++ new' ++ (Builtin.zeroCells z.cells (grownCap w (n + 1) 0 el - (n + 1))).toList).length⟩)) (hVn.mono (Phi.le_upd _ (hf c (Nat.le_refl _) (Nat.lt_succ_self _)))) (by simp) hnl hco (by rw [zeroCells_size, hzs', Nat.zero_add]) (by rw [Nat.zero_add]; exact hcap) w.heap.size
                refine val_of_run (fun c e => by cases e) (w' := w') ?_ (stp_new (r := ⟨w.heap.size, 0, P.cellsOf el, ([] ++ new' ++ (Builtin.zeroCells z.cells (grownCap w (n + 1) 0 el - (n + 1))).toList).length⟩) hR (hf c (Nat.le_refl _) (Nat.lt_succ_self _)) hG hB rfl hheap htape hos hout ho) (V.sl (φ.upd_self c _) (fun _ => rfl) hcap hle) (hu.mono (Phi.le_upd _ (hf c (Nat.le_refl _) (Nat.lt_succ_self _))))
                rw [exec_builtin, hargs, hr]
                exact run_v (s := Builtin.append_ ts ty #[.slice none 0 0, a.eval a1]) hrun
              · cases hh
          · rename_i bb off len c0
            split at hh
            · rename_i e2 cs hg
              split at hh
              · rename_i hcond2
                simp only [Bool.and_eq_true] at hcond2
                obtain ⟨⟨h1, h2⟩, h3⟩ := hcond2
                have h1' := Nat.eq_of_beq_eq_true h1
                have h2' := Nat.le_of_ble_eq_true h2
                have h3' := Nat.le_of_ble_eq_true h3
                rw [Nat.mul_succ] at h3'
                subst h1'
                simp only [fV_eq, fNat_eq, Tr.setK_eq, Tr.delK_eq, Option.some.injEq] at hh
                subst hh
                obtain ⟨rfl, _, p, o', cap, hp, ho, hle, hb, hr⟩ := hs.slI
                simp only at hp ho
                obtain ⟨r0, x0, hr0, hx0, hob, hBr⟩ := hR.obj bb _ hg
                rw [hp] at hr0; cases hr0
                cases hob with
                | cells a1' a2 a3 a4 a5 a6 =>
                rename_i rs fz
                have hne : len * sz ≠ 0 → o' = p.o + off := fun hne => ho (fun e => hne (by rw [e]; exact Nat.zero_mul sz))
                have hVo := (a4.drop off).take (len * sz)
                have hlo : ((cs.drop off).take (len * sz)).length = len * sz := by simp; omega
                have hVo2 : VL κ φ ((cs.drop off).take (len * sz)) ((rs.drop o').take (len * sz)) := by
                  by_cases h0 : len * sz = 0
                  · rw [h0]; exact .nil
                  · rw [hne h0]
                    have e3 : ((List.take cs.length (List.drop p.o rs)).drop off).take (len * sz) = (rs.drop (p.o + off)).take (len * sz) := by
                      rw [List.drop_take, List.drop_drop, List.take_take, Nat.min_eq_left (by omega)]
                    rw [← e3]; exact hVo
                intro hf
                have hfc := hf c (Nat.le_refl _) (Nat.lt_succ_self _)
                by_cases hfit : len + n ≤ cap
                · have hroom : o' + len * sz + new'.length ≤ rs.length := by
                    have := Nat.mul_le_mul_right sz hfit
                    rw [Nat.add_mul] at this
                    rw [a2, hco] at hb
                    omega
                  have hrun := run_storeCells_cells (P := P) p.β (o' + len * sz) new' 0 w (fun j hj => by
                    have : o' + len * sz + j < rs.length := by omega
                    simp [World.cell?, hx0, this]) (fun j hj => by
                    have := a5 (by omega) (o' + len * sz + 0 + j) (by omega)
                    simp only [World.frozen?, hx0]
                    simp only [Bool.and_eq_false_iff, decide_eq_false_iff_not]
                    omega) hoc
                  simp only [Nat.add_zero] at hrun
                  obtain ⟨e1, e2, e3, e4⟩ := setCells_env p.β new' (o' + len * sz) w
                  have hle2 := Phi.le_upd (φ := φ) (c := c) ⟨p.β, o', p.es, p.size⟩ hfc
                  have hcl : ((cs.drop off).take (len * sz) ++ new).length = len * sz + new'.length := by rw [List.length_append, hlo, hnl']
                  refine val_of_run (fun c e => by cases e) (w' := w.setCells p.β (o' + len * sz) new') (v' := .slice (some ⟨p.β, o', none⟩) (len + n) cap) ?_
                    (stp_move (r' := ⟨p.β, o', p.es, p.size⟩) hR hfc hG hg rfl hp rfl (setCells_heap _ _ _ _ _ _ _ hx0) (fun k hk => setCells_other _ _ _ _ _ hk) e4 e1 e2 e3 ?_)
                    (V.sl (r := ⟨p.β, o', p.es, p.size⟩) (φ.upd_self c _) (fun _ => rfl) hfit hb) (hu.mono hle2)
                  · rw [exec_builtin, hargs, hr]
                    exact run_v (s := Builtin.append_ ts ty #[.slice (some ⟨p.β, o', none⟩) len cap, a.eval a1]) (run_append_fits ht hut htx hux hdx hsz hlen hrn hfit (fun a e => by cases e; rw [addr_add]; exact hrun) (fun e => by cases e))
                  · refine .cells (by rw [putAt_length]; exact a1') a2 ?_ ?_ a5 (fun e => by cases e)
                    · rw [hcl]; show o' + _ ≤ p.size; omega
                    · show VL κ _ _ (((putAt rs (o' + len * sz) new').drop o').take _)
                      rw [hcl, putAt_part hroom]
                      exact (hVo2.append hVn).mono hle2
                · obtain ⟨w', hrun, hheap, htape, hos, hout⟩ := run_append_grows (ty := ty) (sLen := len) (sCap := cap) (base := some ⟨p.β, o', none⟩) ht hut htx hux hdx hsz hi hz hlen hrn
                    (fun w2 hw2 => slice_cells2 (P := P) (w := w2) (len := len) (sz := sz) h2' (by rw [hw2]; exact hx0) a4 hne) (by omega) (by omega) (by omega)
                  have hcap := grownCap_ge w (len + n) cap e2
                  have hle2 := fun r => Phi.le_upd (φ := φ) (c := c) r hfc
                  obtain ⟨ho2, hle3⟩ := grown_row (P := P) (el := e2) (es := sz) (len := len) (n := n) (sz := sz) (cap := grownCap w (len + n) cap e2) (zs := (Builtin.zeroCells z.cells (grownCap w (len + n) cap e2 - (len + n))).toList) (κ := κ)
                    (hVo.mono (hle2 ⟨w.heap.size, 0, P.cellsOf e2, (_ ++ new' ++ (Builtin.zeroCells z.cells (grownCap w (len + n) cap e2 - (len + n))).toList).length⟩)) (hVn.mono (hle2 _)) hlo hnl hco (by rw [zeroCells_size, hzs']) hcap w.heap.size
                  refine val_of_run (fun c e => by cases e) (w' := w') ?_ ((stp_del hR).trans (stp_new (stp_del (c := c) hR).rel hfc hG hB rfl hheap htape hos hout ho2)) (V.sl (φ.upd_self c _) (fun _ => rfl) hcap hle3) (hu.mono (hle2 _))
                  rw [exec_builtin, hargs, hr]
                  exact run_v (s := Builtin.append_ ts ty #[.slice (some ⟨p.β, o', none⟩) len cap, a.eval a1]) hrun
              · cases hh
            · cases hh
          · cases hh
      · cases hh
    · cases hh
  · cases hh
end
end Go.Qe
end
section
set_option linter.unusedVariables false
set_option linter.unusedSimpArgs false
namespace Go.Qe
section
variable {κ : Nat → Value} {P : Program} {B : Bd} {G : Nat} {φ : Phi} {h h' : Heap} {w w' : World} {c c' : Nat} {ev : Operand → Value} {v : Value} {b : Frame} {a : Act} {CS : FrameMode → List Frame} {H : Handler} {idf : Nat → Bool} {u : U} {um : FrameMode} {dk : Bool}

theorem hop_copy {args : Array Operand} {ts : Array TypeId} {d : Option Tmp} {ty : TypeId} {pos : String} {aft : Array Edge} {g : Option (Nat × Bool)} {xr : XR}
    (hh : hop P H idf c h u dk ev ⟨d, .call ⟨.builtin .copy, args, ts⟩, ty, pos, aft, g⟩ = some xr) (hO : ∀ z ∈ (Op.call ⟨.builtin .copy, args, ts⟩).operands, V κ φ (ev z) (a.eval z)) (hR : Rel κ P B G φ h w) (hu : UR κ φ u um) :
    XOk κ P B G c φ h w b a CS um ⟨d, .call ⟨.builtin .copy, args, ts⟩, ty, pos, aft, g⟩ xr := by
  simp only [hop] at hh
  have hO' : ∀ y ∈ args, V κ φ (ev y) (a.eval y) := fun y hy => hO y (by simp [Op.operands, Call.operands, hy])
  split at hh
  · rename_i bb off len c0 x el e hu0
    obtain ⟨a0, a1, rfl, ea, ex⟩ := map_two e
    have hs := hO' a0 (by simp)
    have hx := hO' a1 (by simp)
    rw [ea] at hs
    rw [ex] at hx
    obtain ⟨t, ht, hut⟩ := und_of_bind hu0
    have hargs : (#[a0, a1] : Array Operand).map a.eval = #[a.eval a0, a.eval a1] := by simp
    obtain ⟨rfl, _, p, o', cap, hp, ho, hle, hb, hr⟩ := hs.slI
    simp only at hp ho
    split at hh
    · rename_i sz m hsz hm
      split at hh
      · rename_i new e2 cs hnew hg
        split at hh
        · rename_i hble
          have hble' := Nat.le_of_ble_eq_true hble
          split at hh
          · cases hh
          · rename_i hcond
            simp only [Bool.and_eq_true] at hcond
            have hnl := Nat.eq_of_beq_eq_true hcond.2
            simp only [fV_eq, Tr.setK_eq, Option.some.injEq] at hh
            subst hh
            obtain ⟨new', hVn, hrn⟩ := src_spec (P := P) hnew hm (Nat.min_le_left _ _) hx hR
            obtain ⟨w', hrun, hstp⟩ := stp_store (c := c) (o' := o') hR hg (by omega) hp (fun hne => ho (fun e => by
              apply hne
              rw [hnl, e, show Nat.min m 0 = 0 from Nat.min_zero m, Nat.zero_mul])) (by rw [hnl]; exact hble') hVn hcond.1
            intro hf
            refine val_of_run (fun c e => by cases e) (w' := w') (v' := .int .i64 (Nat.min m len)) ?_ hstp (.af rfl) hu
            rw [exec_builtin, hargs, hr]
            refine run_v (s := Builtin.copy_ ts ty #[.slice (some ⟨p.β, o', none⟩) len cap, a.eval a1]) ?_
            have hl := fun w : World => lenV_spec (P := P) hm hx w
            simp [Builtin.copy_, ht, run_und hut, run_sizeT hsz, hl, hrn w rfl, hrun, goInt]
        · cases hh
      · cases hh
    · cases hh
  · cases hh

theorem run_loadBytesN : ∀ (ns : List Int) (ad : Addr) (acc : ByteArray), (∀ j x, ns[j]? = some x → w.cell? (ad.add j) = some (.int .u8 x)) →
    (loadBytes ad acc ns.length).run P w = .ok ⟨acc.data ++ (ns.map fun n => UInt8.ofNat n.toNat).toArray⟩ w
  | [], a, acc, _ => by simp [loadBytes]
  | x :: l, a, acc, h => by
    have h0 : w.cell? a = some (.int .u8 x) := by
      have := h 0 x rfl
      simpa [Addr.add] using this
    have ih := run_loadBytesN l (a.add 1) (acc.push (UInt8.ofNat x.toNat)) (fun j y hy => by
      have := h (j + 1) y (by simpa using hy)
      rw [show (a.add 1).add j = a.add (j + 1) from by simp [Addr.add, Nat.add_assoc, Nat.add_comm 1]]
      exact this)
    have hl : (load a).run P w = .ok (.int .u8 x) w := by simp [h0]
    simp only [List.length_cons, loadBytes, Sem.run_bind, hl, Result.andThen_ok]
    refine Eq.trans ih ?_
    congr 1
    apply congrArg
    apply Array.ext'
    simp [ByteArray.push]

theorem liesAt_bytes2 {e : TypeId} (hc : P.cellsOf e = 1) (count off n : Nat) (hn : off + n ≤ count) : liesAt P P.depth e count off e n = true := by
  have hd : P.depth = (2 * (P.types.size + Made.depth) + 1) + 1 := rfl
  rw [hd]
  simp only [liesAt, Bool.or_eq_true]
  left
  rw [hd]
  simp [rowAt, hc, hn, sameLayout, Nat.mod_one]

theorem ts_cons {ts : Array TypeId} {t : TypeId} (h : ts[0]? = some t) : ∃ l, ts = ⟨t :: l⟩ := by
  obtain ⟨l⟩ := ts
  cases l with
  | nil => simp at h
  | cons x l => simp at h; exact ⟨l, by rw [h]⟩

theorem V.ptrAny {p : Option Addr} {r : Value} (h : V κ φ (.pointer p) r) : ∃ p', r = .pointer p' := by
  cases h with
  | af e => exact ⟨_, rfl⟩
  | ptr e => exact ⟨_, rfl⟩

theorem hop_ustr {args : Array Operand} {ts : Array TypeId} {d : Option Tmp} {ty : TypeId} {pos : String} {aft : Array Edge} {g : Option (Nat × Bool)} {xr : XR}
    (hh : hop P H idf c h u dk ev ⟨d, .call ⟨.builtin .unsafeString, args, ts⟩, ty, pos, aft, g⟩ = some xr) (hO : ∀ z ∈ (Op.call ⟨.builtin .unsafeString, args, ts⟩).operands, V κ φ (ev z) (a.eval z)) (hR : Rel κ P B G φ h w) (hu : UR κ φ u um) :
    XOk κ P B G c φ h w b a CS um ⟨d, .call ⟨.builtin .unsafeString, args, ts⟩, ty, pos, aft, g⟩ xr := by
  simp only [hop] at hh
  have hO' : ∀ y ∈ args, V κ φ (ev y) (a.eval y) := fun y hy => hO y (by simp [Op.operands, Call.operands, hy])
  have hmax : IntKind.i64.max = 9223372036854775807 := rfl
  split at hh
  · rename_i ad k n t e hu0
    obtain ⟨a0, a1, rfl, ea, ex⟩ := map_two e
    have hs := hO' a0 (by simp)
    have hx := hO' a1 (by simp)
    rw [ea] at hs
    rw [ex] at hx
    have hx := hx.int
    obtain ⟨pt, ht, hut⟩ := und_of_bind hu0
    have hargs : (#[a0, a1] : Array Operand).map a.eval = #[a.eval a0, a.eval a1] := by simp
    split at hh
    · simp only [Option.some.injEq] at hh; subst hh
      obtain ⟨p', hp'⟩ := hs.ptrAny
      intro hf
      refine val_of_run (fun c e => by cases e) (w' := w) (v' := .string ⟨#[]⟩) ?_ (Stp.refl hR) (.af rfl) hu
      rw [exec_builtin, hargs, hx, hp']
      refine run_v (s := Builtin.unsafeString_ ts ty #[.pointer p', .int k (Int.ofNat 0)]) ?_
      obtain ⟨tl, rfl⟩ := ts_cons ht
      show (asInt (.int k (Int.ofNat 0)) >>= _).run P w = _
      cases p' <;> simp [asInt, asIntOf, hmax, ByteArray.empty, ByteArray.emptyWithCapacity]
      all_goals rfl
    · rename_i n bb off hn0 _
      split at hh
      · rename_i e2 cs hg
        split at hh
        · rename_i hcond
          simp only [Bool.and_eq_true] at hcond
          obtain ⟨⟨⟨⟨h1, h2⟩, h3⟩, h4⟩, h5⟩ := hcond
          have h1' := Nat.le_of_ble_eq_true h1
          have h2' := Nat.eq_of_beq_eq_true h2
          have h4' := Nat.eq_of_beq_eq_true h4
          have h5' := Nat.le_of_ble_eq_true h5
          subst h2'
          split at hh
          · rename_i bs hbs
            simp only [fU8s_eq, Tr.setK_eq, Option.some.injEq] at hh
            subst hh
            obtain ⟨_, p, hp, hr⟩ := hs.ptrI
            obtain ⟨r0, x0, hr0, hx0, hob, hBr⟩ := hR.obj bb _ hg
            rw [hp] at hr0; cases hr0
            cases hob with
            | cells a1' a2 a3 a4 a5 a6 =>
            rename_i rs fz
            obtain ⟨ns, hns, rfl⟩ := bytesOf_spec hbs
            have hnl : ns.length = n := by
              have := congrArg List.length hns
              simp at this; omega
            have hV := (a4.drop off).take n
            rw [hns] at hV
            have hl' := VL.eq_of_af hV (afL_ints _ _)
            have hcell : ∀ j x, ns[j]? = some x → w.cell? ((⟨p.β, p.o + off, none⟩ : Addr).add j) = some (.int .u8 x) := by
              intro j x hj
              have hjn : j < n := by
                have := (List.getElem?_eq_some_iff.1 hj).1
                omega
              have : (((rs.drop p.o).take cs.length).drop off |>.take n)[j]? = some (.int .u8 x) := by rw [hl']; simp [hj]
              rw [List.getElem?_take, if_pos hjn, List.getElem?_drop, List.getElem?_take, if_pos (by omega), List.getElem?_drop] at this
              rw [addr_add]
              simp only [World.cell?, hx0]
              rw [← this]
              simp [Nat.add_assoc]
            have hlb := run_loadBytesN (P := P) (w := w) ns ⟨p.β, p.o + off, none⟩ .empty hcell
            rw [hnl] at hlb
            have hlies := liesAt_bytes2 (P := P) h4' rs.length (p.o + off) n (by omega)
            have hfz : (w.freeze ⟨p.β, p.o + off, none⟩ n).heap[p.β]? = some (.cells ⟨rs⟩ e2 (if fz.1 == fz.2 then (p.o + off, p.o + off + n) else (min fz.1 (p.o + off), max fz.2 (p.o + off + n)))) := by
              unfold World.freeze
              rw [if_neg (fun e => hn0 e)]
              simp [Array.getElem?_modify, hx0]
            have hoth : ∀ k, k ≠ p.β → (w.freeze ⟨p.β, p.o + off, none⟩ n).heap[k]? = w.heap[k]? := by
              intro k hk
              unfold World.freeze
              split
              · rfl
              · simp [Array.getElem?_modify, Ne.symm hk]
            have henv : (w.freeze ⟨p.β, p.o + off, none⟩ n).tape = w.tape ∧ (w.freeze ⟨p.β, p.o + off, none⟩ n).os = w.os ∧ (w.freeze ⟨p.β, p.o + off, none⟩ n).output = w.output ∧ (w.freeze ⟨p.β, p.o + off, none⟩ n).heap.size = w.heap.size := by
              unfold World.freeze
              split
              · exact ⟨rfl, rfl, rfl, rfl⟩
              · exact ⟨rfl, rfl, rfl, by simp⟩
            intro hf
            refine val_of_run (fun c e => by cases e) (w' := w.freeze ⟨p.β, p.o + off, none⟩ n) (v' := .string ⟨⟨ns.map fun n => UInt8.ofNat n.toNat⟩⟩) ?_
              (stp_set hR hg rfl hp hfz hoth henv.2.2.2 henv.1 henv.2.1 henv.2.2.1 (.cells a1' a2 a3 a4 (fun e => by omega) (fun e => by cases e))) (.af rfl) hu
            rw [exec_builtin, hargs, hx, hr]
            refine run_v (s := Builtin.unsafeString_ ts ty #[.pointer (some ⟨p.β, p.o + off, none⟩), .int k (Int.ofNat n)]) ?_
            have hneg : ¬ ((Int.ofNat n) < 0) := by simp
            have hmx : ¬ ((Int.ofNat n) > 9223372036854775807) := by simp; omega
            have hnz : ¬ ((Int.ofNat n) = 0) := by
              intro e
              exact hn0 (by simpa using e)
            have hva : (variablesAt ⟨p.β, p.o + off, none⟩ e2 n).run P w = .ok true w := by
              simp [variablesAt, World.shape?, hx0, h4', hlies]
            have hel2 : (elemOf pt).run P w = .ok e2 w := by simp [elemOf, run_und hut]
            obtain ⟨tl, rfl⟩ := ts_cons ht
            show (asInt (.int k (Int.ofNat n)) >>= _).run P w = _
            have hlb2 : Sem.run P (loadBytes { block := p.β, off := p.o + off } { data := #[] } n) w = .ok ⟨⟨List.map (fun n => UInt8.ofNat n.toNat) ns⟩⟩ w := by
              refine hlb.trans ?_
              congr 2
              rw [← Array.toList_inj]
              simp only [Array.toList_append]
              rfl
            have i1 : ¬ ((n : Int) < 0) := by omega
            have i2 : ¬ (9223372036854775807 < (n : Int)) := by omega
            have i3 : ¬ (n = 0) := fun e => hn0 e
            simp [asInt, asIntOf, hmax, i1, i2, i3, hel2, hva, freeze, Sem.run, ByteArray.empty, ByteArray.emptyWithCapacity]
            exact congrArg (fun r => Result.andThen r fun a w' => Result.ok (Value.string a) (w'.freeze { block := p.β, off := p.o + off } n)) hlb2
          · cases hh
        · cases hh
      · cases hh
    · cases hh
  · cases hh
end
end Go.Qe
end
section
set_option linter.unusedVariables false
set_option linter.unusedSimpArgs false
namespace Go.Qe
section
variable {κ : Nat → Value} {P : Program} {B : Bd} {G : Nat} {φ : Phi} {h h' : Heap} {w w' : World} {c c' : Nat} {ev : Operand → Value} {v : Value} {b : Frame} {a : Act} {CS : FrameMode → List Frame} {H : Handler} {idf : Nat → Bool} {u : U} {um : FrameMode} {dk : Bool}

theorem keyStays {old new k : Value} (h : prun P (Instr.keyThatStays old new) = some k) : k = new ∧ ∀ w, (Instr.keyThatStays old new).run P w = .ok new w := by
  unfold Instr.keyThatStays at h ⊢
  split at h
  · rename_i hs
    have : new = k := by simpa [prun, Pure.pure] using h
    subst this
    refine ⟨rfl, fun w => ?_⟩
    rw [if_pos hs]; rfl
  · simp [prun, choose, Bind.bind, Sem.bind] at h

/-- A map in the heap, and in the world. -/
theorem map_at {bb : Nat} {es : List Value} {clock : Nat} {p : Pl} (hR : Rel κ P B G φ h w) (hg : h.get bb = some (.map es clock)) (hp : φ bb = some p) :
    ∃ rs, ML κ φ es rs ∧ p.o = 0 ∧ w.heap[p.β]? = some (.map ⟨rs⟩ clock) ∧ (getObj p.β).run P w = .ok (.map ⟨rs⟩ clock) w := by
  obtain ⟨r0, x0, hr0, hx0, hob, hB⟩ := hR.obj bb _ hg
  rw [hp] at hr0; cases hr0
  cases hob with
  | map h0 hM => exact ⟨_, hM, h0, hx0, by simp [getObj, Sem.run, hx0]⟩

theorem map_put {bb : Nat} {es es' : List Value} {clock clock' : Nat} {rs' : List MapEntry} {p : Pl} (hR : Rel κ P B G φ h w) (hg : h.get bb = some (.map es clock)) (hp : φ bb = some p) (hM : ML κ φ es' rs') :
    ∃ w', (setObj p.β (.map ⟨rs'⟩ clock')).run P w = .ok () w' ∧ Stp κ P B G c c φ φ h (h.set bb (.map es' clock')) w w' := by
  obtain ⟨rs, _, h0, hx0, _⟩ := map_at hR hg hp
  have hlt : p.β < w.heap.size := (Array.getElem?_eq_some_iff.1 hx0).1
  refine ⟨{ w with heap := w.heap.setIfInBounds p.β (.map ⟨rs'⟩ clock') }, by simp [setObj, Sem.run, hx0], ?_⟩
  exact stp_set hR hg rfl hp (by simp [hlt]) (fun k hk => by rw [Array.getElem?_setIfInBounds, if_neg (by omega)]) (by simp) rfl rfl rfl (.map h0 hM)

theorem modify_list {α : Type} {l : List α} {i : Nat} {x : α} (hx : l[i]? = some x) (f : α → α) : (⟨l⟩ : Array α).modify i f = ⟨l.set i (f x)⟩ := by
  apply Array.ext'
  simp only [Array.toList_modify]
  apply List.ext_getElem?
  intro j
  rw [List.getElem?_modify, List.getElem?_set]
  obtain ⟨hi, rfl⟩ := List.getElem?_eq_some_iff.1 hx
  by_cases hij : i = j
  · subst hij; simp [hi]
  · simp [hij]

theorem hop_mapUpdate {t : TypeId} {m k x : Operand} {d : Option Tmp} {ty : TypeId} {pos : String} {aft : Array Edge} {g : Option (Nat × Bool)} {xr : XR}
    (hh : hop P H idf c h u dk ev ⟨d, .mapUpdate t m k x, ty, pos, aft, g⟩ = some xr) (hO : ∀ z ∈ (Op.mapUpdate t m k x).operands, V κ φ (ev z) (a.eval z)) (hR : Rel κ P B G φ h w) (hu : UR κ φ u um) :
    XOk κ P B G c φ h w b a CS um ⟨d, .mapUpdate t m k x, ty, pos, aft, g⟩ xr := by
  simp only [hop] at hh
  have hm := hO m (by simp [Op.operands])
  have hk := hO k (by simp [Op.operands])
  have hx := hO x (by simp [Op.operands])
  split at hh
  · rename_i kt el bb hut em haf
    have hk := hk.eq_of_af haf
    rw [em] at hm
    obtain ⟨p, hp, hr⟩ := hm.mapI
    split at hh
    · rename_i es clock hg
      obtain ⟨rs, hM, h0, hx0, hgo⟩ := map_at hR hg hp
      split at hh
      · rename_i i hck hfd
        split at hh
        · rename_i e he
          split at hh
          · rename_i k' hst
            simp only [fV_eq, Tr.setK_eq, Option.some.injEq] at hh
            subst hh
            obtain ⟨k0, u0, u', n, rfl, hk0, hV, hrs, hfk⟩ := findAt_some hM hfd he
            obtain ⟨rfl, hsr⟩ := keyStays hst
            have hset := hM.set haf hx (n := n) i
            obtain ⟨w', hrun, hs⟩ := map_put (c := c) (clock' := clock) hR hg hp hset
            intro hf
            refine val_of_skip (fun c e => by cases e) (run_u (s := Instr.mapUpdate t (a.eval m) (a.eval k) (a.eval x)) ?_) (by simpa [eborn, ment] using hs) hu
            unfold Instr.mapUpdate
            have hmod : (⟨rs⟩ : Array MapEntry).modify i (fun e => { e with key := ev k, val := a.eval x }) = ⟨rs.set i ⟨ev k, a.eval x, n⟩⟩ := modify_list hrs _
            simp only [hr, hk, Sem.run_bind, run_und hut, Result.andThen_ok, hgo, prun_run _ w hck, prun_run _ w hfk]
            have hrs' : (⟨rs⟩ : Array MapEntry)[i]? = some ⟨k0, u', n⟩ := by simpa using hrs
            simp only [hrs', Option.map_some, Option.getD_some, Sem.run_bind]
            have hst' := hsr w
            simp only [ekey, ment] at hst'
            rw [hst', Result.andThen_ok, hmod]
            exact hrun
          · cases hh
        · cases hh
      · rename_i hck hfd
        simp only [fV_eq, fNat_eq, Tr.setK_eq, Option.some.injEq] at hh
        subst hh
        have hfk := findAt_none hM hfd
        have hnew := hM.append (.cons (n := clock) haf hx .nil)
        obtain ⟨w', hrun, hs⟩ := map_put (c := c) (clock' := clock + 1) hR hg hp hnew
        intro hf
        refine val_of_skip (fun c e => by cases e) (run_u (s := Instr.mapUpdate t (a.eval m) (a.eval k) (a.eval x)) ?_) hs hu
        unfold Instr.mapUpdate
        simp only [hr, hk, Sem.run_bind, run_und hut, Result.andThen_ok, hgo, prun_run _ w hck, prun_run _ w hfk]
        have hpush : (⟨rs⟩ : Array MapEntry).push ⟨ev k, a.eval x, clock⟩ = ⟨rs ++ [⟨ev k, a.eval x, clock⟩]⟩ := by apply Array.ext'; simp
        rw [hpush]
        exact hrun
      · cases hh
    · cases hh
  · cases hh

theorem hop_mapEntry {t : TypeId} {m k : Operand} {d : Option Tmp} {ty : TypeId} {pos : String} {aft : Array Edge} {g : Option (Nat × Bool)} {xr : XR}
    (hh : hop P H idf c h u dk ev ⟨d, .mapEntry t m k, ty, pos, aft, g⟩ = some xr) (hO : ∀ z ∈ (Op.mapEntry t m k).operands, V κ φ (ev z) (a.eval z)) (hR : Rel κ P B G φ h w) (hu : UR κ φ u um) :
    XOk κ P B G c φ h w b a CS um ⟨d, .mapEntry t m k, ty, pos, aft, g⟩ xr := by
  simp only [hop] at hh
  have hm := hO m (by simp [Op.operands])
  have hk := hO k (by simp [Op.operands])
  split at hh
  · rename_i kt el bb hut em haf
    have hk := hk.eq_of_af haf
    rw [em] at hm
    obtain ⟨p, hp, hr⟩ := hm.mapI
    split at hh
    · rename_i es clock hg
      obtain ⟨rs, hM, h0, hx0, hgo⟩ := map_at hR hg hp
      split at hh
      · rename_i i hck hfd
        split at hh
        · rename_i e he
          split at hh
          · rename_i k' hst
            simp only [fV_eq, Tr.setK_eq, Option.some.injEq] at hh
            subst hh
            obtain ⟨k0, u0, u', n, rfl, hk0, hV, hrs, hfk⟩ := findAt_some hM hfd he
            obtain ⟨rfl, hsr⟩ := keyStays hst
            have hset := hM.set haf hV (n := n) i
            obtain ⟨w', hrun, hs⟩ := map_put (c := c) (clock' := clock) hR hg hp hset
            intro hf
            refine val_of_run (fun c e => by cases e) (v' := .tuple ⟨[u', .int .i64 n]⟩) (run_v (s := Instr.mapEntry t (a.eval m) (a.eval k)) ?_) (by simpa [eborn, evalue, ment] using hs) (by simpa [eborn, evalue, ment] using V.tuple (.cons hV (.cons (.af rfl) .nil))) hu
            unfold Instr.mapEntry
            have hmod : (⟨rs⟩ : Array MapEntry).modify i (fun e => { e with key := ev k }) = ⟨rs.set i ⟨ev k, u', n⟩⟩ := modify_list hrs _
            simp only [hr, hk, Sem.run_bind, run_und hut, Result.andThen_ok, hgo, prun_run _ w hck, prun_run _ w hfk]
            have hrs' : (⟨rs⟩ : Array MapEntry)[i]? = some ⟨k0, u', n⟩ := by simpa using hrs
            simp only [hrs', Option.map_some, Option.getD_some, Sem.run_bind]
            have hst' := hsr w
            simp only [ekey, ment] at hst'
            rw [hst', Result.andThen_ok, hmod, hrun]
            rfl
          · cases hh
        · cases hh
      · rename_i hck hfd
        split at hh
        · rename_i z hz
          simp only [fV_eq, fNat_eq, Tr.setK_eq, Option.some.injEq] at hh
          subst hh
          have hfk := findAt_none hM hfd
          obtain ⟨_, _, _, hzaf⟩ := zeroT_spec hz
          have hnew := hM.append (.cons (n := clock) haf (V.af hzaf) .nil)
          obtain ⟨w', hrun, hs⟩ := map_put (c := c) (clock' := clock + 1) hR hg hp hnew
          intro hf
          refine val_of_run (fun c e => by cases e) (v' := .tuple ⟨[z, .int .i64 clock]⟩) (run_v (s := Instr.mapEntry t (a.eval m) (a.eval k)) ?_) hs (.tuple (.cons (.af hzaf) (.cons (.af rfl) .nil))) hu
          unfold Instr.mapEntry
          simp only [hr, hk, Sem.run_bind, run_und hut, Result.andThen_ok, hgo, prun_run _ w hck, prun_run _ w hfk, run_zeroT hz]
          have hpush : (⟨rs⟩ : Array MapEntry).push ⟨ev k, z, clock⟩ = ⟨rs ++ [⟨ev k, z, clock⟩]⟩ := by apply Array.ext'; simp
          rw [hpush, hrun]
          rfl
        · cases hh
      · cases hh
    · cases hh
  · cases hh

theorem bornAt_spec {n : Int} : ∀ {es : List Value} {rs : List MapEntry} (i : Nat) {j : Nat}, ML κ φ es rs → bornAt n es i = some j → i ≤ j ∧ rs.findIdx? (fun e => (e.born : Int) == n) = some (j - i)
  | _, _, _, _, .nil, h => by simp [bornAt] at h
  | _, _, i, j, .cons (n := n') (l' := l') hk hV r, h => by
    simp only [bornAt] at h
    split at h
    · rename_i hd
      simp only [Option.some.injEq] at h
      subst h
      refine ⟨Nat.le_refl _, ?_⟩
      have hd := of_decide_eq_true hd
      simp only [eborn, ment, Int.toNat_natCast] at hd
      rw [List.findIdx?_cons, if_pos (by simpa using hd)]
      simp
    · rename_i hd
      have hd := of_decide_eq_false hd
      simp only [eborn, ment, Int.toNat_natCast] at hd
      obtain ⟨h1, h2⟩ := bornAt_spec (i + 1) r h
      refine ⟨by omega, ?_⟩
      rw [List.findIdx?_cons, if_neg (by simpa using hd), h2]
      simp only [Option.map_some, Option.some.injEq]
      omega

theorem hop_entryStore {t : TypeId} {m s x : Operand} {d : Option Tmp} {ty : TypeId} {pos : String} {aft : Array Edge} {g : Option (Nat × Bool)} {xr : XR}
    (hh : hop P H idf c h u dk ev ⟨d, .entryStore t m s x, ty, pos, aft, g⟩ = some xr) (hO : ∀ z ∈ (Op.entryStore t m s x).operands, V κ φ (ev z) (a.eval z)) (hR : Rel κ P B G φ h w) (hu : UR κ φ u um) :
    XOk κ P B G c φ h w b a CS um ⟨d, .entryStore t m s x, ty, pos, aft, g⟩ xr := by
  simp only [hop] at hh
  have hm := hO m (by simp [Op.operands])
  have hsx := hO s (by simp [Op.operands])
  have hx := hO x (by simp [Op.operands])
  split at hh
  · rename_i bb kk n em es0
    rw [em] at hm
    rw [es0] at hsx
    have hsx := hsx.int
    obtain ⟨p, hp, hr⟩ := hm.mapI
    split at hh
    · rename_i es clock hg
      obtain ⟨rs, hM, h0, hx0, hgo⟩ := map_at hR hg hp
      split at hh
      · rename_i i hi
        split at hh
        · rename_i e he
          simp only [fV_eq, Tr.setK_eq, Option.some.injEq] at hh
          subst hh
          obtain ⟨k0, u0, u', n0, rfl, hk0, hV, hrs⟩ := hM.get he
          obtain ⟨_, hfi⟩ := bornAt_spec 0 hM hi
          have hset := hM.set hk0 hx (n := n0) i
          obtain ⟨w', hrun, hs⟩ := map_put (c := c) (clock' := clock) hR hg hp hset
          intro hf
          refine val_of_skip (fun c e => by cases e) (run_u (s := Instr.entryStore t (a.eval m) (a.eval s) (a.eval x)) ?_) (by simpa [eborn, ekey, ment] using hs) hu
          unfold Instr.entryStore
          have hmod : (⟨rs⟩ : Array MapEntry).modify i (fun e => { e with val := a.eval x }) = ⟨rs.set i ⟨k0, a.eval x, n0⟩⟩ := modify_list hrs _
          have hfi' : (⟨rs⟩ : Array MapEntry).findIdx? (fun e => (e.born : Int) == n) = some i := by
            have := hfi
            simp only [Nat.sub_zero] at this
            simpa [← List.findIdx?_toArray] using this
          simp only [hr, hsx, Sem.run_bind, hgo, Result.andThen_ok, asInt, asIntOf, Sem.run_pure, hfi', hmod]
          exact hrun
        · cases hh
      · cases hh
    · cases hh
  · cases hh

theorem hop_delete {args : Array Operand} {ts : Array TypeId} {d : Option Tmp} {ty : TypeId} {pos : String} {aft : Array Edge} {g : Option (Nat × Bool)} {xr : XR}
    (hh : hop P H idf c h u dk ev ⟨d, .call ⟨.builtin .delete, args, ts⟩, ty, pos, aft, g⟩ = some xr) (hO : ∀ z ∈ (Op.call ⟨.builtin .delete, args, ts⟩).operands, V κ φ (ev z) (a.eval z)) (hR : Rel κ P B G φ h w) (hu : UR κ φ u um) :
    XOk κ P B G c φ h w b a CS um ⟨d, .call ⟨.builtin .delete, args, ts⟩, ty, pos, aft, g⟩ xr := by
  simp only [hop] at hh
  have hO' : ∀ y ∈ args, V κ φ (ev y) (a.eval y) := fun y hy => hO y (by simp [Op.operands, Call.operands, hy])
  split at hh
  · rename_i m k kt el e hu0
    obtain ⟨a0, a1, rfl, ea, ex⟩ := map_two e
    have hs := hO' a0 (by simp)
    have hk := hO' a1 (by simp)
    rw [ea] at hs
    rw [ex] at hk
    obtain ⟨t, ht, hut⟩ := und_of_bind hu0
    have hargs : (#[a0, a1] : Array Operand).map a.eval = #[a.eval a0, a.eval a1] := by simp
    split at hh
    · cases hh
    · rename_i haf
      have hk := hk.eq_of_af haf
      split at hh
      · split at hh
        · rename_i hck
          simp only [Option.some.injEq] at hh
          subst hh
          intro hf
          refine val_of_run (fun c e => by cases e) (w' := w) (v' := .tuple ⟨[]⟩) ?_ (Stp.refl hR) (.af rfl) hu
          rw [exec_builtin, hargs, hk, hs.mapN]
          refine run_v (s := Builtin.delete_ ts ty #[.map none, k]) ?_
          simp [Builtin.delete_, ht, run_und hut, prun_run _ w hck]
        · cases hh
      · rename_i bb
        obtain ⟨p, hp, hr⟩ := hs.mapI
        split at hh
        · rename_i es clock hg
          obtain ⟨rs, hM, h0, hx0, hgo⟩ := map_at hR hg hp
          have hemp : (⟨rs⟩ : Array MapEntry).isEmpty = es.isEmpty := by
            have := hM.length
            cases rs <;> cases es <;> simp_all
          split at hh
          · rename_i i hck hfd
            simp only [fV_eq, Tr.setK_eq, Option.some.injEq] at hh
            subst hh
            have hi : ∃ e, es[i]? = some e := by
              unfold findAt at hfd
              split at hfd
              · rename_i i' u0 hr0
                simp only [Option.some.injEq] at hfd
                subst hfd
                obtain ⟨e0, q1, _⟩ := findKey_val hr0
                simp only [blank, List.getElem?_map] at q1
                cases he : es[i']? with
                | none => rw [he] at q1; cases q1
                | some e => exact ⟨e, rfl⟩
              · cases hfd
              · cases hfd
            obtain ⟨e0, he⟩ := hi
            obtain ⟨k0, u0, u', n0, rfl, hk0, hV, hrs, hfk⟩ := findAt_some hM hfd he
            obtain ⟨w', hrun, hs⟩ := map_put (c := c) (clock' := clock) hR hg hp (hM.eraseIdx i)
            intro hf
            refine val_of_run (fun c e => by cases e) (w' := w') (v' := .tuple ⟨[]⟩) ?_ hs (.af rfl) hu
            rw [exec_builtin, hargs, hk, hr]
            refine run_v (s := Builtin.delete_ ts ty #[.map (some p.β), k]) ?_
            have her : (⟨rs⟩ : Array MapEntry).eraseIdxIfInBounds i = ⟨rs.eraseIdx i⟩ := by
              have hlt : i < rs.length := (List.getElem?_eq_some_iff.1 hrs).1
              apply Array.ext'
              simp [Array.eraseIdxIfInBounds, hlt]
            simp only [Builtin.delete_, List.getElem?_toArray, List.getElem?_cons_zero, List.getElem?_cons_succ, ht, Sem.run_bind, run_und hut, Result.andThen_ok, hgo, hemp, prun_run _ w hck, prun_run _ w hfk, her, hrun]
            rfl
          · rename_i hck hfd
            simp only [Option.some.injEq] at hh
            subst hh
            have hfk := findAt_none hM hfd
            obtain ⟨w', hrun, hs⟩ := map_put (c := c) (clock' := clock) hR hg hp hM
            have hww : w' = w := by
              simp only [setObj, Sem.run, hx0] at hrun
              have hlt : p.β < w.heap.size := (Array.getElem?_eq_some_iff.1 hx0).1
              have hq : w.heap.setIfInBounds p.β (.map ⟨rs⟩ clock) = w.heap := by
                apply Array.ext'
                simp only [Array.toList_setIfInBounds]
                apply List.ext_getElem?
                intro j
                rw [List.getElem?_set]
                by_cases hj : p.β = j
                · subst hj
                  have : w.heap.toList[p.β]? = some (.map ⟨rs⟩ clock) := by simpa using hx0
                  rw [this]; simp [hlt]
                · simp [hj]
              rw [hq] at hrun
              injection hrun with _ hrun
              exact hrun.symm
            subst hww
            intro hf
            refine val_of_run (fun c e => by cases e) (w' := w') (v' := .tuple ⟨[]⟩) ?_ (Stp.refl hR) (.af rfl) hu
            rw [exec_builtin, hargs, hk, hr]
            refine run_v (s := Builtin.delete_ ts ty #[.map (some p.β), k]) ?_
            simp only [Builtin.delete_, List.getElem?_toArray, List.getElem?_cons_zero, List.getElem?_cons_succ, ht, Sem.run_bind, run_und hut, Result.andThen_ok, hgo, hemp, prun_run _ w' hck, prun_run _ w' hfk, hrun]
            rfl
          · cases hh
        · cases hh
  · cases hh

theorem hop_clear {args : Array Operand} {ts : Array TypeId} {d : Option Tmp} {ty : TypeId} {pos : String} {aft : Array Edge} {g : Option (Nat × Bool)} {xr : XR}
    (hh : hop P H idf c h u dk ev ⟨d, .call ⟨.builtin .clear, args, ts⟩, ty, pos, aft, g⟩ = some xr) (hO : ∀ z ∈ (Op.call ⟨.builtin .clear, args, ts⟩).operands, V κ φ (ev z) (a.eval z)) (hR : Rel κ P B G φ h w) (hu : UR κ φ u um) :
    XOk κ P B G c φ h w b a CS um ⟨d, .call ⟨.builtin .clear, args, ts⟩, ty, pos, aft, g⟩ xr := by
  simp only [hop] at hh
  have hO' : ∀ y ∈ args, V κ φ (ev y) (a.eval y) := fun y hy => hO y (by simp [Op.operands, Call.operands, hy])
  split at hh
  · rename_i m kt el e hu0
    obtain ⟨a0, rfl, ea⟩ := map_one e
    have hs := hO' a0 (by simp)
    rw [ea] at hs
    obtain ⟨t, ht, hut⟩ := und_of_bind hu0
    have hargs : (#[a0] : Array Operand).map a.eval = #[a.eval a0] := by simp
    split at hh
    · simp only [Option.some.injEq] at hh
      subst hh
      intro hf
      refine val_of_run (fun c e => by cases e) (w' := w) (v' := .tuple ⟨[]⟩) ?_ (Stp.refl hR) (.af rfl) hu
      rw [exec_builtin, hargs, hs.mapN]
      refine run_v (s := Builtin.clear_ ts ty #[.map none]) ?_
      simp [Builtin.clear_, ht, run_und hut]
    · rename_i bb
      obtain ⟨p, hp, hr⟩ := hs.mapI
      split at hh
      · rename_i es clock hg
        simp only [Tr.setK_eq, Option.some.injEq] at hh
        subst hh
        obtain ⟨rs, hM, h0, hx0, hgo⟩ := map_at hR hg hp
        obtain ⟨w', hrun, hs⟩ := map_put (c := c) (clock' := clock) (rs' := []) hR hg hp .nil
        intro hf
        refine val_of_run (fun c e => by cases e) (w' := w') (v' := .tuple ⟨[]⟩) ?_ hs (.af rfl) hu
        rw [exec_builtin, hargs, hr]
        refine run_v (s := Builtin.clear_ ts ty #[.map (some p.β)]) ?_
        simp only [Builtin.clear_, List.getElem?_toArray, List.getElem?_cons_zero, ht, Sem.run_bind, run_und hut, Result.andThen_ok, hgo, hrun]
        rfl
      · cases hh
  · cases hh

theorem ML.filter {es : List Value} {rs : List MapEntry} (h : ML κ φ es rs) (p : Nat → Bool) : ML κ φ (es.filter fun e => p (eborn e)) (rs.filter fun e => p e.born) := by
  induction h with
  | nil => exact .nil
  | cons hk hV r ih =>
    rename_i k u u' n l l'
    have e1 : eborn (ment k u n) = n := by simp [eborn, ment]
    simp only [List.filter_cons, e1]
    cases p n with
    | true => exact .cons hk hV ih
    | false => exact ih
theorem ML.all {es : List Value} {rs : List MapEntry} (h : ML κ φ es rs) (p : Nat → Bool) : es.all (fun e => p (eborn e)) = rs.all fun e => p e.born := by
  induction h with
  | nil => rfl
  | cons hk hV r ih =>
    rename_i k u u' n l l'
    have e1 : eborn (ment k u n) = n := by simp [eborn, ment]
    simp only [List.all_cons, e1, ih]

theorem hop_next_map {it : Operand} {d : Option Tmp} {ty : TypeId} {pos : String} {aft : Array Edge} {g : Option (Nat × Bool)} {xr : XR}
    (hh : hop P H idf c h u dk ev ⟨d, .next it false, ty, pos, aft, g⟩ = some xr) (hO : ∀ z ∈ (Op.next it false).operands, V κ φ (ev z) (a.eval z)) (hR : Rel κ P B G φ h w) (hu : UR κ φ u um) :
    XOk κ P B G c φ h w b a CS um ⟨d, .next it false, ty, pos, aft, g⟩ xr := by
  simp only [hop] at hh
  have hx := hO it (by simp [Op.operands])
  split at hh
  · rename_i bb e
    rw [e] at hx
    obtain ⟨_, p, hp, hr⟩ := hx.ptrI
    split at hh
    · rename_i s0 sn0 l0 hg
      simp only [Option.some.injEq] at hh
      subst hh
      obtain ⟨r0, x0, hr0, hx0, hob, hB⟩ := hR.obj bb _ hg
      rw [hp] at hr0; cases hr0
      cases hob with
      | miter0 h0 =>
      rw [h0] at hr
      intro hf
      refine val_of_run (fun c e => by cases e) (w' := w) (v' := .tuple ⟨[.bool false]⟩) (run_v (s := Instr.next (a.eval it) false ty) ?_) (Stp.refl hR) (.af rfl) hu
      have hgo : (getObj p.β).run P w = .ok (.mapIter none s0 ⟨sn0⟩ l0) w := by simp [getObj, Sem.run, hx0]
      rw [hr]
      simp only [Instr.next, Nat.add_zero, Sem.run_bind, hgo, Result.andThen_ok]
      rfl
    · rename_i m since seen last hg
      obtain ⟨r0, x0, hr0, hx0, hob, hB⟩ := hR.obj bb _ hg
      rw [hp] at hr0; cases hr0
      cases hob with
      | miter h0 hpm =>
      rename_i pm
      rw [h0] at hr
      have hgo : (getObj p.β).run P w = .ok (.mapIter (some pm.β) since ⟨seen⟩ last) w := by simp [getObj, Sem.run, hx0]
      split at hh
      · rename_i es clock hgm
        obtain ⟨rs, hM, hm0, hxm, hgom⟩ := map_at hR hgm hpm
        split at hh
        · cases hh
        · rename_i hno
          have hcond : (!(⟨seen⟩ : Array Nat).isEmpty && !(⟨rs⟩ : Array MapEntry).isEmpty && (⟨rs⟩ : Array MapEntry).all (fun e => decide (e.born ≥ last))) = false := by
            have h1 := hM.all (fun n => Nat.ble last n)
            have h2 : (⟨rs⟩ : Array MapEntry).all (fun e => decide (e.born ≥ last)) = rs.all fun e => Nat.ble last e.born := by
              have h0 : (fun e : MapEntry => decide (e.born ≥ last)) = fun e => Nat.ble last e.born := by
                funext e
                rw [Bool.eq_iff_iff, decide_eq_true_iff]
                exact ⟨Nat.ble_eq_true_of_le, Nat.le_of_ble_eq_true⟩
              rw [List.all_toArray, h0]
            have h3 : (⟨rs⟩ : Array MapEntry).isEmpty = es.isEmpty := by
              have := hM.length
              cases rs <;> cases es <;> simp_all
            have h4 : (⟨seen⟩ : Array Nat).isEmpty = seen.isEmpty := by cases seen <;> rfl
            rw [h2, ← h1, h3, h4]
            exact hno
          have hfl := hM.filter (fun n => !seen.contains n)
          have hleft : (⟨rs⟩ : Array MapEntry).filter (fun e => !(⟨seen⟩ : Array Nat).contains e.born) = ⟨rs.filter fun e => !seen.contains e.born⟩ := by
            apply Array.ext'; simp
          split at hh
          · rename_i hnil
            simp only [Option.some.injEq] at hh
            subst hh
            rw [hnil] at hfl
            have hl0 : rs.filter (fun e => !seen.contains e.born) = [] := by
              have := hfl.length
              exact List.length_eq_zero_iff.1 this
            intro hf
            refine val_of_run (fun c e => by cases e) (w' := w) (v' := .tuple ⟨[.bool false]⟩) (run_v (s := Instr.next (a.eval it) false ty) ?_) (Stp.refl hR) (.af rfl) hu
            have hf0 : ∀ q : MapEntry → Bool, (⟨[]⟩ : Array MapEntry).filter q = #[] := fun q => by apply Array.ext'; simp
            rw [hr]
            simp only [Instr.next, Nat.add_zero, Sem.run_bind, hgo, Result.andThen_ok, hgom, hcond, hleft, hl0, hf0]
            simp [choose, Sem.run, Question.forced]
          · rename_i e0 hone
            split at hh
            · rename_i hlt
              have hlt' : eborn e0 < since := Nat.le_of_ble_eq_true hlt
              simp only [fNat_eq, Tr.setK_eq, Option.some.injEq] at hh
              subst hh
              rw [hone] at hfl
              obtain ⟨k0, u0, u', n0, rfl, hk0, hV, hrs⟩ := hfl.get (i := 0) rfl
              have hl1 : rs.filter (fun e => !seen.contains e.born) = [⟨k0, u', n0⟩] := by
                have h1 := hfl.length
                cases hq : rs.filter (fun e => !seen.contains e.born) with
                | nil => rw [hq] at h1; simp at h1
                | cons y l =>
                  rw [hq] at h1 hrs
                  simp at h1 hrs
                  rw [h1, hrs]
              have e1 : eborn (ment k0 u0 n0) = n0 := by simp [eborn, ment]
              rw [e1] at hlt'
              have hltp : p.β < w.heap.size := (Array.getElem?_eq_some_iff.1 hx0).1
              intro hf
              refine val_of_run (fun c e => by cases e) (w' := { w with heap := w.heap.setIfInBounds p.β (.mapIter (some pm.β) since ⟨seen ++ [n0]⟩ clock) }) (v' := .tuple ⟨[.bool true, k0, u']⟩) (run_v (s := Instr.next (a.eval it) false ty) ?_)
                (by rw [e1]; exact stp_set hR hg rfl hp (by simp [hltp]) (fun k hk => by rw [Array.getElem?_setIfInBounds, if_neg (by omega)]) (by simp) rfl rfl rfl (.miter h0 hpm)) (.tuple (.cons (.af rfl) (.cons (.af hk0) (.cons hV .nil)))) hu
              have ho : (⟨[⟨k0, u', n0⟩]⟩ : Array MapEntry).filter (·.born < since) = #[⟨k0, u', n0⟩] := by simp [hlt']
              have hn : (⟨[⟨k0, u', n0⟩]⟩ : Array MapEntry).filter (·.born ≥ since) = #[] := by simp; omega
              rw [hr]
              simp only [Instr.next, Nat.add_zero, Sem.run_bind, hgo, Result.andThen_ok, hgom, hcond, hleft, hl1, ho, hn]
              have hpu : (⟨seen⟩ : Array Nat).push n0 = ⟨seen ++ [n0]⟩ := by apply Array.ext'; simp
              simp [choose, Sem.run, Question.forced, setObj, hx0, hpu]
            · cases hh
          · cases hh
      · cases hh
    · cases hh
  · cases hh
end
end Go.Qe
end
section
set_option linter.unusedVariables false
set_option linter.unusedSimpArgs false
namespace Go.Qe
section
variable {κ : Nat → Value} {P : Program} {B : Bd} {G : Nat} {φ : Phi} {h h' : Heap} {w w' : World} {c c' : Nat} {ev : Operand → Value} {v : Value} {b : Frame} {a : Act} {CS : FrameMode → List Frame} {H : Handler} {idf : Nat → Bool} {u : U} {um : FrameMode} {dk : Bool}

theorem hop_recover {args : Array Operand} {ts : Array TypeId} {d : Option Tmp} {ty : TypeId} {pos : String} {aft : Array Edge} {g : Option (Nat × Bool)} {xr : XR}
    (hh : hop P H idf c h u dk ev ⟨d, .call ⟨.builtin .recover, args, ts⟩, ty, pos, aft, g⟩ = some xr) (hR : Rel κ P B G φ h w) (hu : UR κ φ u um) (hcs : CsOk dk b CS) :
    XOk κ P B G c φ h w b a CS um ⟨d, .call ⟨.builtin .recover, args, ts⟩, ty, pos, aft, g⟩ xr := by
  simp only [hop] at hh
  have hrun : ∀ w : World, (execOp a.eval ⟨d, .call ⟨.builtin .recover, args, ts⟩, ty, pos, aft, g⟩).run P w = .ok .recover w := fun w => by rw [exec_builtin]; rfl
  split at hh
  · obtain ⟨hk, hro, c0, cs0, hCS⟩ := hcs
    split at hh
    · rename_i v0
      simp only [Option.some.injEq] at hh; subst hh
      cases hu with
      | pan hV =>
        rename_i v'
        intro hf ops i rest k ho hw
        refine ⟨φ, w, .panicking [{ v := v', recovered := true }], v', Stp.refl hR, hV, .pan hV, ?_⟩
        rw [hCS, hCS]
        exact .one (st_recover (c0 := { c0 with mode := .panicking [{ v := v', recovered := false }] }) ho hw (fun c e => by cases e) (hrun w) hro hk rfl)
    · rename_i hne
      simp only [Option.some.injEq] at hh; subst hh
      intro hf ops i rest k ho hw
      refine ⟨φ, w, um, .nilIface, Stp.refl hR, .af rfl, hu, ?_⟩
      rw [hCS]
      refine .one (st_recover_none (c0 := { c0 with mode := um }) ho hw (fun c e => by cases e) (hrun w) hro hk ?_)
      cases hu with
      | ret => exact .inl rfl
      | pan hV =>
        rename_i v0 v' r
        cases r with
        | false => exact (hne v0 rfl).elim
        | true => exact .inr ⟨v', [], rfl⟩
  · cases hh

theorem hop_defer {cl : Call} {d : Option Tmp} {ty : TypeId} {pos : String} {aft : Array Edge} {g : Option (Nat × Bool)} {xr : XR}
    (hh : hop P H idf c h u dk ev ⟨d, .defer cl, ty, pos, aft, g⟩ = some xr) (hO : ∀ z ∈ (Op.defer cl).operands, V κ φ (ev z) (a.eval z)) :
    XOk κ P B G c φ h w b a CS um ⟨d, .defer cl, ty, pos, aft, g⟩ xr := by
  obtain ⟨cal, args, ts⟩ := cl
  cases cal with
  | value f =>
    obtain ⟨al⟩ := args
    have hargs : VL κ φ (al.map ev) (al.map a.eval) := VL.map_op fun y hy => hO y (by simp [Op.operands, Call.operands, hy])
    have hf := hO f (by simp [Op.operands, Call.operands])
    simp only [hop] at hh
    split at hh
    · rename_i fn first cap e
      obtain ⟨first⟩ := first
      obtain ⟨cap⟩ := cap
      split at hh
      · rename_i hny
        simp only [Option.some.injEq] at hh; subst hh
        rw [e] at hf
        obtain ⟨fs', cs', hr, hf1, hf2⟩ := hf.fnI hny
        refine ⟨⟨.fn fn ⟨cs'⟩, ⟨fs' ++ al.map a.eval⟩⟩, ?_, ?_, _, rfl⟩
        · have := DV.fn (κ := κ) (φ := φ) hny hf2 (hf1.append hargs)
          simpa using this
        · show (do let d ← resolve a.eval ⟨.value f, ⟨al⟩, ts⟩ ty; pure (.defer d) : Sem Next).run P w = _
          unfold resolve
          simp only [hr, Deferred.ofValue, Sem.run_bind, Sem.run_pure, Result.andThen_ok]
          congr 3
          apply Array.ext'; simp
      · cases hh
    · cases hh
  | _ => simp [hop] at hh

/-- Every heavy operation. -/
theorem hop_sound {o : Oper} {xr : XR}
    (hH : HOk κ P B G H) (hid : ∀ f, idf f = true → ∀ v w, (callFunc f #[v]).run P w = .ok (.value v) w)
    (hh : hop P H idf c h u dk ev o = some xr) (hO : ∀ z ∈ o.op.operands, V κ φ (ev z) (a.eval z)) (hR : Rel κ P B G φ h w) (hG : G ≤ c) (hB : B.n ≤ w.heap.size) (hu : UR κ φ u um) (hcs : CsOk dk b CS) :
    XOk κ P B G c φ h w b a CS um o xr := by
  obtain ⟨d, op, ty, pos, aft, g⟩ := o
  cases op with
  | store t x y => exact hop_store hh hO hR hu
  | next it s => cases s with
    | true => exact hop_next rfl hh hO hR hu
    | false => exact hop_next_map hh hO hR hu
  | mapUpdate t m k x => exact hop_mapUpdate hh hO hR hu
  | mapEntry t m k => exact hop_mapEntry hh hO hR hu
  | entryStore t m s x => exact hop_entryStore hh hO hR hu
  | panic x => exact hop_panic hh hO hR
  | defer cl => exact hop_defer hh hO
  | call cl =>
    obtain ⟨cal, args, ts⟩ := cl
    cases cal with
    | value f => exact hop_value hH hid hh hO hR hG hB hu
    | builtin bi =>
      cases bi with
      | append => exact hop_append hh hO hR hG hB hu
      | copy => exact hop_copy hh hO hR hu
      | unsafeString => exact hop_ustr hh hO hR hu
      | recover => exact hop_recover hh hR hu hcs
      | delete => exact hop_delete hh hO hR hu
      | clear => exact hop_clear hh hO hR hu
      | _ => simp [hop] at hh
    | _ => simp [hop] at hh
  | _ => simp [hop] at hh
end
end Go.Qe
end
section
set_option linter.unusedVariables false
set_option linter.unusedSimpArgs false
namespace Go.Qe

def putT (nt : Nat) (tm : Tr Value) (dst : Option Nat) (v : Value) : Tr Value := match dst with
  | none => tm
  | some d => match Nat.blt d nt with
    | true => tm.set d v
    | false => tm
theorem putK_eq {β : Type} (nt : Nat) (tm : Tr Value) (dst : Option Nat) (v : Value) (k : Tr Value → β) : putK nt tm dst v k = k (putT nt tm dst v) := by
  cases dst with
  | none => rfl
  | some d =>
    simp only [putK, putT]
    split
    · rename_i e; simp only [e, fV_eq, Tr.setK_eq]
    · rename_i e; simp only [e]

section
variable {κ : Nat → Value} {P : Program} {B : Bd} {G : Nat} {φ : Phi} {h : Heap} {w : World} {nt : Nat} {tm : Tr Value} {a : Act} {ops : Array Oper}

theorem TmR.put (hT : TmR κ φ nt tm a.tmps) {v v' : Value} (hV : V κ φ v v') (dst : Option Nat) : TmR κ φ nt (putT nt tm dst v) (a.put dst v').tmps := by
  cases dst with
  | none => exact hT
  | some d =>
    simp only [putT, Act.put]
    cases hlt : Nat.blt d nt with
    | true =>
      have hlt' : d < nt := Nat.le_of_ble_eq_true hlt
      refine ⟨by simp [hT.size], fun i => ?_⟩
      simp only [opv, Tr.get_set]
      by_cases hd : d = i
      · subst hd
        rw [if_pos rfl]
        have : (a.tmps.setIfInBounds d v').getD d undef = v' := by
          have := hT.size
          rw [Array.getD_eq_getD_getElem?, Array.getElem?_setIfInBounds, if_pos rfl, if_pos (by omega)]
          rfl
        rw [this]; exact hV
      · rw [if_neg hd]
        have : (a.tmps.setIfInBounds d v').getD i undef = a.tmps.getD i undef := by
          rw [Array.getD_eq_getD_getElem?, Array.getD_eq_getD_getElem?, Array.getElem?_setIfInBounds, if_neg hd]
        rw [this]
        exact hT.val i
    | false =>
      have hge : ¬ d < nt := fun hl => by rw [show Nat.blt d nt = true from Nat.ble_eq_true_of_le hl] at hlt; cases hlt
      have : a.tmps.setIfInBounds d v' = a.tmps := by
        apply Array.ext'
        have := hT.size
        rw [Array.toList_setIfInBounds, List.set_eq_of_length_le]
        rw [Array.length_toList]; omega
      rw [this]; exact hT

theorem opv_sound' (hR : Rel κ P B G φ h w) {x : Operand} (hT : ∀ t, x = .tmp t → V κ φ (opv tm (.tmp t)) (a.tmps.getD t undef)) (hx : okx G x = true) : V κ φ (opv tm x) (a.eval x) := by
  cases x with
  | tmp t => exact hT t rfl
  | const v => exact .af hx
  | global g =>
    obtain ⟨r, hr, h1, h2⟩ := hR.glob g (Nat.le_of_ble_eq_true hx)
    have := V.ptr (κ := κ) (o := 0) hr
    rw [h1, h2] at this
    exact this
  | func f => exact .af rfl

theorem opv_sound (hT : TmR κ φ nt tm a.tmps) (hR : Rel κ P B G φ h w) {x : Operand} (hx : okx G x = true) : V κ φ (opv tm x) (a.eval x) := opv_sound' hR (fun t _ => hT.val t) hx

theorem ops_sound (hT : TmR κ φ nt tm a.tmps) (hR : Rel κ P B G φ h w) {o : Oper} (ho : okOp G o = true) : ∀ z ∈ o.op.operands, V κ φ (opv tm z) (a.eval z) := by
  intro z hz
  unfold okOp at ho
  rw [Array.all_eq_true'] at ho
  exact opv_sound hT hR (ho z hz)

theorem wanted_sound' {o : Oper} (hT : ∀ j bb d, o.guard = some (j, bb) → (ops[j]?).bind (·.dst) = some d → V κ φ (opv tm (.tmp d)) (a.tmps.getD d undef)) {x : Bool} (hw : wantedC ops tm o = some x) : Region.wanted o (yielded ops a.tmps) = x := by
  unfold wantedC at hw
  unfold Region.wanted
  split at hw
  · rename_i e; simp only [Option.some.injEq] at hw; rw [e]; exact hw
  · rename_i j bb e
    rw [e]
    show (yielded ops a.tmps j == some bb) = x
    split at hw
    · rename_i e2; simp only [Option.some.injEq] at hw; subst hw; simp [yielded, e2]
    · rename_i d e2
      have hv := hT j bb d e e2
      have key : ∀ y, a.tmps.getD d undef = y → (∀ x, y ≠ .bool x) → yielded ops a.tmps j = none := by
        intro y hy hne
        rw [Array.getD_eq_getD_getElem?] at hy
        simp only [yielded, e2, Option.bind_some]
        cases hq : a.tmps[d]? with
        | none => rfl
        | some y' =>
          rw [hq] at hy
          simp only [Option.getD_some] at hy
          subst hy
          cases y' <;> first | rfl | exact absurd rfl (hne _)
      split at hw
      · rename_i x0 e3
        simp only [Option.some.injEq] at hw; subst hw
        simp only [opv, e3] at hv
        have hv := hv.bool
        rw [Array.getD_eq_getD_getElem?] at hv
        cases hq : a.tmps[d]? with
        | none => rw [hq] at hv; cases hv
        | some y' =>
          rw [hq] at hv
          simp only [Option.getD_some] at hv
          subst hv
          simp only [yielded, e2, Option.bind_some, hq]
          cases x0 <;> cases bb <;> rfl
      · rename_i e3
        simp only [Option.some.injEq] at hw; subst hw
        simp only [opv, e3] at hv
        have hv : a.tmps.getD d undef = .tuple ⟨[]⟩ := hv.eq_of_af rfl
        rw [key _ hv (fun x e => by cases e)]
        rfl
      · rename_i e3
        simp only [Option.some.injEq] at hw; subst hw
        simp only [opv, e3] at hv
        have hv : a.tmps.getD d undef = undef := hv.eq_of_af rfl
        rw [key _ hv (fun x e => by cases e)]
        rfl
      · cases hw
theorem wanted_sound (hT : TmR κ φ nt tm a.tmps) {o : Oper} {x : Bool} (hw : wantedC ops tm o = some x) : Region.wanted o (yielded ops a.tmps) = x := wanted_sound' (fun _ _ d _ _ => hT.val d) hw
end

def XR.ge (c : Nat) (h : Heap) : XR → Prop
  | .val _ c' h' _ => Ext c h c' h'
  | .pan _ c' h' => Ext c h c' h'
  | .dfr _ => True
theorem invk_ge {H : Handler} (hm : ∀ {q c h ot c' h'}, H q c h = some (ot, c', h') → Ext c h c' h') {fn : Fn} {args cap : List Value} {c : Nat} {h : Heap} {xr : XR} (hh : invk H fn args cap c h = some xr) : XR.ge c h xr := by
  unfold invk at hh
  split at hh
  · rename_i hq
    simp only [Option.some.injEq] at hh; subst hh
    cases fn <;> first | exact hm hq | cases hq
  · rename_i hq
    simp only [Option.some.injEq] at hh; subst hh
    cases fn <;> first | exact hm hq | cases hq
  · cases hh
theorem hop_ge {P : Program} {H : Handler} {idf : Nat → Bool} {c : Nat} {h : Heap} {u : U} {dk : Bool} {ev : Operand → Value} {o : Oper} {xr : XR} (hm : ∀ {q c h ot c' h'}, H q c h = some (ot, c', h') → Ext c h c' h')
    (hh : hop P H idf c h u dk ev o = some xr) : XR.ge c h xr := by
  have k1 : Ext c h c h := Ext.refl _ _
  have k2 : ∀ ob, Ext c h (c + 1) (h.set c ob) := fun ob => Ext.new _ _ _
  have k3 : ∀ b ob ob', h.get b = some ob → Ext c h c (h.set b ob') := fun b ob ob' e => Ext.upd (by rw [e]; simp)
  have k4 : ∀ b ob, Ext c h (c + 1) ((h.del b).set c ob) := fun b ob => Ext.move _ _ _ _
  unfold hop at hh
  simp only [fV_eq, fNat_eq, fU8s_eq, Tr.setK_eq, Tr.delK_eq] at hh
  split at hh
  all_goals (repeat' split at hh)
  all_goals first
    | cases hh; done
    | (simp only [Option.some.injEq] at hh; subst hh; first | exact k1 | exact k2 _ | (exact k3 _ _ _ (by assumption)) | exact k4 _ _ | trivial)
    | skip
  · rename_i hq
    cases hh
    have := invk_ge hm hq
    exact this
  · exact invk_ge hm hh

def OR.c : OR → Nat
  | .go _ _ c _ _ => c
  | .pan _ _ _ c _ _ => c
def OR.h : OR → Heap
  | .go _ _ _ h _ => h
  | .pan _ _ _ _ h _ => h

theorem runOps_ext {E : Env} {H : Handler} {rd dk : Bool} {nt : Nat} {ops : Array Oper} (hm : ∀ {q c h ot c' h'}, H q c h = some (ot, c', h') → Ext c h c' h') : ∀ {l : List Oper} {tm : Tr Value} {df : List Deferred} {c : Nat} {h : Heap} {u : U} {r : OR},
    runOps E H rd dk nt ops l tm df c h u = some r → Ext c h r.c r.h := by
  intro l
  induction l with
  | nil => intro tm df c h u r hh; simp only [runOps, Option.some.injEq] at hh; subst hh; exact Ext.refl _ _
  | cons o l ih =>
    intro tm df c h u r hh
    simp only [runOps, putK_eq] at hh
    split at hh
    · exact ih hh
    · split at hh
      · exact ih hh
      · split at hh
        · simp only [fV_eq, fNat_eq, Tr.setK_eq] at hh
          exact (Ext.new _ _ _).trans (ih hh)
        · simp only [fV_eq, fNat_eq, Tr.setK_eq] at hh
          exact (Ext.new _ _ _).trans (ih hh)
      · split at hh
        · rename_i hq
          exact Ext.trans (hop_ge hm hq) (ih hh)
        · rename_i hq
          have h1 := hop_ge hm hq
          simp only [Option.some.injEq] at hh; subst hh
          exact h1
        · split at hh
          · cases hh
          · exact ih hh
        · cases hh
    · cases hh
theorem runOps_ge {E : Env} {H : Handler} {rd dk : Bool} {nt : Nat} {ops : Array Oper} (hm : ∀ {q c h ot c' h'}, H q c h = some (ot, c', h') → Ext c h c' h') {l : List Oper} {tm : Tr Value} {df : List Deferred} {c : Nat} {h : Heap} {u : U} {r : OR}
    (hh : runOps E H rd dk nt ops l tm df c h u = some r) : c ≤ r.c := (runOps_ext hm hh).1

section
variable {κ : Nat → Value} {E : Env} {B : Bd} {nt : Nat} {ops : Array Oper} {b : Frame} {CS : FrameMode → List Frame} {H : Handler} {dk rd : Bool}

/-- The state of a frame, in the evaluator and in the machine. -/
structure SR (κ : Nat → Value) (P : Program) (B : Bd) (G : Nat) (nt : Nat) (φ : Phi) (tm : Tr Value) (df : List Deferred) (h : Heap) (u : U) (a : Act) (w : World) (um : FrameMode) : Prop where
  rel : Rel κ P B G φ h w
  tm : TmR κ φ nt tm a.tmps
  df : DVL κ φ df a.defers
  u : UR κ φ u um
  B : B.n ≤ w.heap.size

/-- What a region's operations owe. -/
def OROk (κ : Nat → Value) (P : Program) (B : Bd) (G : Nat) (nt : Nat) (b : Frame) (CS : FrameMode → List Frame) (ops : Array Oper) (k : List Item) (idx : List Nat) (c : Nat) (φ : Phi) (h : Heap) (a : Act) (w : World) (um : FrameMode) : OR → Prop
  | .go tm' df' c' h' u' => ∃ φ' a' w' um', Stp κ P B G c c' φ φ' h h' w w' ∧ SR κ P B G nt φ' tm' df' h' u' a' w' um' ∧
      Steps P (lone (b.atR a (.inRegion ops idx :: k)) (CS um) w) (lone (b.atR a' (.inRegion ops [] :: k)) (CS um') w')
  | .pan v tm' df' c' h' u' => ∃ φ' a' w' um' v' todo, Stp κ P B G c c' φ φ' h h' w w' ∧ SR κ P B G nt φ' tm' df' h' u' a' w' um' ∧ V κ φ' v v' ∧
      Steps P (lone (b.atR a (.inRegion ops idx :: k)) (CS um) w) (lone { b.atR a' todo with mode := .panicking [{ v := v', recovered := false }] } (CS um') w')

theorem OROk.of {P : Program} {G : Nat} {k : List Item} {idx idx' : List Nat} {c c1 : Nat} {φ φ1 : Phi} {h h1 : Heap} {a a1 : Act} {w w1 : World} {um um1 : FrameMode} {r : OR} (hs : Stp κ P B G c c1 φ φ1 h h1 w w1)
    (hst : Steps P (lone (b.atR a (.inRegion ops idx :: k)) (CS um) w) (lone (b.atR a1 (.inRegion ops idx' :: k)) (CS um1) w1))
    (hr : OROk κ P B G nt b CS ops k idx' c1 φ1 h1 a1 w1 um1 r) : OROk κ P B G nt b CS ops k idx c φ h a w um r := by
  cases r with
  | go tm' df' c' h' u' =>
    obtain ⟨φ', a', w', um', s1, s2, s3⟩ := hr
    exact ⟨φ', a', w', um', hs.trans s1, s2, hst.trans s3⟩
  | pan v tm' df' c' h' u' =>
    obtain ⟨φ', a', w', um', v', todo, s1, s2, s3, s4⟩ := hr
    exact ⟨φ', a', w', um', v', todo, hs.trans s1, s2, s3, hst.trans s4⟩

theorem fresh.at {φ : Phi} {c c' : Nat} (hf : fresh φ c c') (h : c < c') : φ c = none := hf c (Nat.le_refl _) h

/-- A light operation in its turn, where its new block is put into the heap at once. -/
theorem light_step {P : Program} {G : Nat} {k : List Item} {i : Nat} {rest : List Nat} {c : Nat} {φ : Phi} {h : Heap} {a : Act} {w : World} {um : FrameMode} {tm : Tr Value} {df : List Deferred} {u : U} {o : Oper} {v : Value} {ob : Option CObj} {rd : List Nat}
    (hi : ops[i]? = some o) (hok : okOp G o = true) (hw : Region.wanted o (yielded ops a.tmps) = true) (hl : lop P c h.get (opv tm) o = some ⟨v, ob, rd⟩) (hS : SR κ P B G nt φ tm df h u a w um) (hc : ob ≠ none → φ c = none) (hG : G ≤ c) :
    ∃ φ1 a1 w1, Stp κ P B G c (match ob with
        | none => c
        | some _ => c + 1) φ φ1 h (match ob with
        | none => h
        | some x => h.set c x) w w1 ∧ SR κ P B G nt φ1 (putT nt tm o.dst v) df (match ob with
        | none => h
        | some x => h.set c x) u a1 w1 um ∧
      Steps P (lone (b.atR a (.inRegion ops (i :: rest) :: k)) (CS um) w) (lone (b.atR a1 (.inRegion ops rest :: k)) (CS um) w1) := by
  have hO := ops_sound hS.tm hS.rel hok
  have hnd : ∀ cl, o.op ≠ .defer cl := by
    intro cl e
    obtain ⟨d, op, ty, pos, aft, g⟩ := o
    simp only at e
    subst e
    simp [lop] at hl
  obtain ⟨v', w', hrun, hstep⟩ := lop_sound hl hO (fun bb _ o' e r0 hr0 => by
    obtain ⟨r, x, h1, h2, h3, _⟩ := hS.rel.obj bb o' e
    rw [hr0] at h1; cases h1
    exact ⟨x, h2, h3⟩) hc
  cases ob with
  | none =>
    obtain ⟨rfl, hV⟩ := hstep
    exact ⟨φ, a.put o.dst v', w', Stp.refl hS.rel, ⟨hS.rel, hS.tm.put hV _, by cases o.dst <;> exact hS.df, hS.u, hS.B⟩, .one (st_value hi hw hnd hrun)⟩
  | some x =>
    obtain ⟨x', es, sz, e1, e2, e3, e4, hob, hV⟩ := hstep
    have hc := hc (by simp)
    have hle := Phi.le_upd (φ := φ) ⟨w.heap.size, 0, es, sz⟩ hc
    have hs := stp_new (r := ⟨w.heap.size, 0, es, sz⟩) hS.rel hc hG hS.B rfl e1 e2 e3 e4 hob
    exact ⟨_, a.put o.dst v', w', hs, ⟨hs.rel, (hS.tm.mono hle).put hV _, by cases o.dst <;> exact hS.df.mono hle, hS.u.mono hle, by rw [e1]; simp; have := hS.B; omega⟩, .one (st_value hi hw hnd hrun)⟩

theorem put_defers (a : Act) (d : Option Tmp) (v : Value) : (a.put d v).defers = a.defers := by cases d <;> rfl

theorem runOps_sound {k : List Item} (hH : HOk κ E.P B E.G H) (hid : ∀ f, E.idf f = true → ∀ v w, (callFunc f #[v]).run E.P w = .ok (.value v) w) (hcs : CsOk dk b CS) (hrd : rd = b.roundOf.isSome) : ∀ {l : List Oper} {i : Nat} {tm : Tr Value} {df : List Deferred} {c : Nat} {h : Heap} {u : U} {r : OR} {φ : Phi} {a : Act} {w : World} {um : FrameMode},
    ops.toList.drop i = l → runOps E H rd dk nt ops l tm df c h u = some r → SR κ E.P B E.G nt φ tm df h u a w um → E.G ≤ c → fresh φ c r.c →
    OROk κ E.P B E.G nt b CS ops k (List.range' i l.length) c φ h a w um r := by
  intro l
  induction l with
  | nil =>
    intro i tm df c h u r φ a w um hl hh hS hG hf
    simp only [runOps, Option.some.injEq] at hh; subst hh
    exact ⟨φ, a, w, um, Stp.refl hS.rel, hS, Steps.refl _ _⟩
  | cons o l ih =>
    intro i tm df c h u r φ a w um hl hh hS hG hf
    have hi : ops[i]? = some o := by
      have := congrArg (·[0]?) hl
      simpa using this
    have hl' : ops.toList.drop (i + 1) = l := by
      rw [← List.drop_drop, hl]; rfl
    simp only [List.length_cons, List.range'_succ]
    simp only [runOps, putK_eq] at hh
    split at hh
    · rename_i hok hwn
      have hw := wanted_sound hS.tm hwn
      refine OROk.of (Stp.refl hS.rel) (.one (stepR_op_skip (by rw [hi]; simpa using hw))) (ih hl' hh ⟨hS.rel, ?_, ?_, hS.u, hS.B⟩ hG hf)
      · rw [hi]; exact hS.tm.put (.af rfl) _
      · rw [put_defers]; exact hS.df
    · rename_i hok hwn
      have hw := wanted_sound hS.tm hwn
      split at hh
      · rename_i v rd' hlop
        obtain ⟨φ1, a1, w1, hs, hS1, hst⟩ := light_step (CS := CS) (k := k) (b := b) (rest := List.range' (i + 1) l.length) hi hok hw hlop hS (fun e => absurd rfl e) hG
        exact OROk.of hs hst (ih hl' hh hS1 hG (hf.right hs))
      · rename_i v ob rd' hlop
        have hh2 : runOps E H rd dk nt ops l (putT nt tm o.dst v) df (c + 1) (h.set c ob) u = some r := by
          split at hh
          · simpa only [fV_eq, fNat_eq, Tr.setK_eq] using hh
          · simpa only [fV_eq, fNat_eq, Tr.setK_eq] using hh
        have hge2 := runOps_ge hH.ext hh2
        obtain ⟨φ1, a1, w1, hs, hS1, hst⟩ := light_step (CS := CS) (k := k) (b := b) (rest := List.range' (i + 1) l.length) hi hok hw hlop hS (fun _ => hf c (Nat.le_refl _) (by omega)) hG
        exact OROk.of hs hst (ih hl' hh2 hS1 (Nat.le_succ_of_le hG) (hf.right hs))
      · rename_i hlop
        split at hh
        · rename_i v1 c1 h1 u1 hq
          have hge := (hop_ge hH.ext hq).1
          have hge2 := runOps_ge hH.ext hh
          have hx := hop_sound (b := b) (CS := CS) (a := a) (um := um) hH hid hq (ops_sound hS.tm hS.rel hok) hS.rel hG hS.B hS.u hcs
          have hx := hx (hf.left hge2)
          obtain ⟨φ1, w1, um1, v1', hs, hV, hu, hst⟩ := hx ops i (List.range' (i + 1) l.length) k hi hw
          have hle := hs.le (hf.left hge2)
          refine OROk.of hs hst (ih hl' hh ⟨hs.rel, (hS.tm.mono hle).put hV _, ?_, hu, Nat.le_trans hS.B hs.size⟩ (Nat.le_trans hG hge) (hf.right hs))
          rw [put_defers]; exact hS.df.mono hle
        · rename_i v1 c1 h1 hq
          simp only [Option.some.injEq] at hh; subst hh
          have hx := hop_sound (b := b) (CS := CS) (a := a) (um := um) hH hid hq (ops_sound hS.tm hS.rel hok) hS.rel hG hS.B hS.u hcs
          have hx := hx hf
          obtain ⟨φ1, w1, v1', hs, hV, hst⟩ := hx ops i (List.range' (i + 1) l.length) k hi hw
          have hle := hs.le hf
          exact ⟨φ1, a, w1, um, v1', _, hs, ⟨hs.rel, hS.tm.mono hle, hS.df.mono hle, hS.u.mono hle, Nat.le_trans hS.B hs.size⟩, hV, hst⟩
        · rename_i d1 hq
          split at hh
          · cases hh
          · obtain ⟨d', hD, hrun, _⟩ := hop_sound (b := b) (CS := CS) (a := a) (um := um) hH hid hq (ops_sound hS.tm hS.rel hok) hS.rel hG hS.B hS.u hcs
            have hro : b.roundOf = none := by
              cases hb : b.roundOf with
              | none => rfl
              | some x => rw [hb] at hrd; cases hrd
            refine OROk.of (Stp.refl hS.rel) (.one (st_defer hi hw hro hrun)) (ih hl' hh ⟨hS.rel, ?_, ?_, hS.u, hS.B⟩ hG hf)
            · exact TmR.put (a := { a with defers := d' :: a.defers }) hS.tm (.af rfl) _
            · rw [put_defers]; exact .cons hD hS.df
        · cases hh
    · cases hh
end
end Go.Qe
end
