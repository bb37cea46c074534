/- The evaluator's regions that draw their order, its frames and its calls: what it computes the machine computes. Conditions: as each theorem states. -/
import Derived.Test.YtchaedgajgdchaaGreatDoorQC
import Derived.Orders
import Derived.RangeFuncIn
import Derived.RangeFuncRecord
import Derived.RangeFuncLeaves
import Derived.Defers
section
set_option linter.unusedVariables false
set_option linter.unusedSimpArgs false
namespace Go.Qe

/-- 'j' stands before 'i'. -/
def bt (B : Array Nat) (i j : Nat) : Prop := (B.getD i 0).testBit j = true

section
variable (E : Env) (H : Handler) (dk : Bool) (nt : Nat) (ops : Array Oper) (B : Array Nat)

def live (i : Nat) (s : DS) : Prop := ∀ p v hp, s.pn = some (p, v, hp) → ¬ bt B i p

structure UnwAt (i : Nat) (o : Oper) (s s' : DS) : Prop where
  live : live B i s
  ok : okOpD E.G nt o = true
  w : wantedC ops s.tm o = some false
  eq : s' = { s with tm := putT nt s.tm o.dst undef }
structure LightAt (i : Nat) (o : Oper) (v : Value) (ob : Option CObj) (rd : List Nat) (s s' : DS) : Prop where
  live : live B i s
  ok : okOpD E.G nt o = true
  w : wantedC ops s.tm o = some true
  lop : lop E.P s.c (pendGet s.pend s.h) (opv s.tm) o = some ⟨v, ob, rd⟩
  hvs : ∀ k a b, (k, a, b) ∈ s.hvs → bt B i k ∨ sameAt rd a b = true
  eq : s' = { s with tm := putT nt s.tm o.dst v, c := (match (generalizing := false) ob with
    | none => s.c
    | some _ => s.c + 1), pend := (match (generalizing := false) ob with
    | none => s.pend
    | some ob => (i, s.c, ob) :: s.pend), rds := (i, rd, againOf E.P s.c (opv s.tm) o v ob rd) :: s.rds }
structure HeavyAt (i : Nat) (o : Oper) (v : Value) (c' : Nat) (h h' : Heap) (u' : U) (s s' : DS) : Prop where
  pn : s.pn = none
  nl : lop E.P s.c (pendGet s.pend s.h) (opv s.tm) o = none
  ok : okOpD E.G nt o = true
  w : wantedC ops s.tm o = some true
  mg : (mergeP (B.getD i 0) s.pend s.h).1 = h
  hm : s.hm &&& B.getD i 0 = s.hm
  hop : hop E.P H E.idf s.c h s.u dk (opv s.tm) o = some (.val v c' h' u')
  rds : ∀ j rd ag, (j, rd, ag) ∈ s.rds → bt B i j ∨ sameAt rd h h' = true ∨ ag h' = true
  eq : s' = { tm := putT nt s.tm o.dst v, c := c', h := h', u := u', pend := (mergeP (B.getD i 0) s.pend s.h).2, rds := s.rds, hvs := (i, h, h') :: s.hvs, hm := s.hm ||| 2 ^ i, pn := none }
structure PanAt (i : Nat) (o : Oper) (v : Value) (c' : Nat) (h h' : Heap) (s s' : DS) : Prop where
  pn : s.pn = none
  ok : okOpD E.G nt o = true
  w : wantedC ops s.tm o = some true
  nl : lop E.P s.c (pendGet s.pend s.h) (opv s.tm) o = none
  mg : (mergeP (B.getD i 0) s.pend s.h).1 = h
  hm : s.hm &&& B.getD i 0 = s.hm
  hop : hop E.P H E.idf s.c h s.u dk (opv s.tm) o = some (.pan v c' h')
  eq : s' = { s with c := c', h := h, pend := (mergeP (B.getD i 0) s.pend s.h).2, pn := some (i, v, h') }

inductive DK (i : Nat) (o : Oper) (s s' : DS) : Prop
  | skip {p : Nat} {v : Value} {hp : Heap} : s.pn = some (p, v, hp) → bt B i p → s' = s → DK i o s s'
  | unw : UnwAt E nt ops B i o s s' → DK i o s s'
  | light {v : Value} {ob : Option CObj} {rd : List Nat} : LightAt E nt ops B i o v ob rd s s' → DK i o s s'
  | heavy {v : Value} {c' : Nat} {h h' : Heap} {u' : U} : HeavyAt E H dk nt ops B i o v c' h h' u' s s' → DK i o s s'
  | pan {v : Value} {c' : Nat} {h h' : Heap} : PanAt E H dk nt ops B i o v c' h h' s s' → DK i o s s'
end

section
variable {E : Env} {H : Handler} {dk : Bool} {nt : Nat} {ops : Array Oper} {B : Array Nat}

theorem drawOps_cons {o : Oper} {l : List Oper} {i : Nat} {s sN : DS} (h : drawOps E H dk nt ops B (o :: l) i s = some sN) :
    ∃ s', DK E H dk nt ops B i o s s' ∧ drawOps E H dk nt ops B l (i + 1) s' = some sN := by
  simp only [drawOps, putK_eq] at h
  split at h
  · rename_i hsk
    split at hsk
    · rename_i p v hp hpn
      exact ⟨s, .skip hpn hsk rfl, h⟩
    · cases hsk
  · rename_i hsk
    have hlive : live B i s := by
      intro p v hp e hb
      rw [e] at hsk
      simp only at hsk
      unfold bt at hb
      rw [hb] at hsk
      cases hsk
    split at h
    · rename_i hok hw
      exact ⟨_, .unw ⟨hlive, hok, hw, rfl⟩, h⟩
    · rename_i hok hw
      split at h
      · rename_i v ob rd hl
        split at h
        · rename_i hall
          have hv : ∀ k a b, (k, a, b) ∈ s.hvs → bt B i k ∨ sameAt rd a b = true := by
            intro k a b hm
            have := List.all_eq_true.1 hall _ hm
            simp only [Bool.or_eq_true] at this
            exact this
          cases ob with
          | none => exact ⟨_, .light ⟨hlive, hok, hw, hl, hv, rfl⟩, h⟩
          | some ob => exact ⟨_, .light ⟨hlive, hok, hw, hl, hv, rfl⟩, h⟩
        · cases h
      · rename_i hl
        split at h
        · cases h
        · rename_i hpn
          split at h
          · rename_i hhm
            have hhm := Nat.eq_of_beq_eq_true hhm
            split at h
            · rename_i v c' h' u hop
              split at h
              · rename_i hall
                refine ⟨_, .heavy (v := v) (c' := c') (h' := h') (u' := u) ⟨hpn, hl, hok, hw, rfl, hhm, hop, ?_, rfl⟩, h⟩
                intro j rd ag hm
                have := List.all_eq_true.1 hall _ hm
                simp only [Bool.or_eq_true, or_assoc] at this
                exact this
              · cases h
            · rename_i v c' h' hop
              exact ⟨_, .pan (v := v) (c' := c') (h' := h') ⟨hpn, hok, hw, hl, rfl, hhm, hop, rfl⟩, h⟩
            · cases h
          · cases h
    · cases h

theorem drawOps_trace : ∀ {l : List Oper} {i : Nat} {s sN : DS}, ops.toList.drop i = l → i + l.length = ops.size → drawOps E H dk nt ops B l i s = some sN →
    ∃ f : Nat → DS, f i = s ∧ f ops.size = sN ∧ ∀ j o, i ≤ j → ops[j]? = some o → DK E H dk nt ops B j o (f j) (f (j + 1)) := by
  intro l
  induction l with
  | nil =>
    intro i s sN hl hi h
    simp only [drawOps, Option.some.injEq] at h
    subst h
    refine ⟨fun _ => s, rfl, rfl, fun j o hj ho => ?_⟩
    have := (Array.getElem?_eq_some_iff.1 ho).1
    simp at hi
    omega
  | cons o l ih =>
    intro i s sN hl hi h
    have ho : ops[i]? = some o := by
      have := congrArg (·[0]?) hl
      simpa using this
    have hl' : ops.toList.drop (i + 1) = l := by
      rw [← List.drop_drop, hl]; rfl
    obtain ⟨s', hd, h'⟩ := drawOps_cons h
    obtain ⟨f, h1, h2, h3⟩ := ih hl' (by simp at hi; omega) h'
    refine ⟨fun j => if j = i then s else f j, by simp, ?_, fun j o' hj ho' => ?_⟩
    · have : ops.size ≠ i := by simp at hi; omega
      simp only [if_neg this]; exact h2
    · by_cases hji : j = i
      · subst hji
        rw [ho] at ho'; cases ho'
        simp only [if_true, if_neg (show ¬ j + 1 = j by omega)]
        rw [h1]; exact hd
      · simp only [if_neg hji, if_neg (show ¬ j + 1 = i by omega)]
        exact h3 j o' (by omega) ho'
end
end Go.Qe
end
section
set_option linter.unusedVariables false
set_option linter.unusedSimpArgs false
namespace Go.Qe
set_option linter.unusedSectionVars false

theorem mergeP_mem {bits : Nat} {l : List (Nat × Nat × CObj)} {h : Heap} {j id : Nat} {ob : CObj} (hm : (j, id, ob) ∈ (mergeP bits l h).2) : (j, id, ob) ∈ l ∧ bits.testBit j = false := by
  induction l with
  | nil => simp [mergeP] at hm
  | cons x l ih =>
    obtain ⟨j', id', ob'⟩ := x
    simp only [mergeP] at hm
    split at hm
    · obtain ⟨a, b⟩ := ih hm
      exact ⟨.tail _ a, b⟩
    · rename_i hb
      rcases List.mem_cons.1 hm with e | e
      · cases e; exact ⟨.head _, hb⟩
      · obtain ⟨a, b⟩ := ih e
        exact ⟨.tail _ a, b⟩
theorem mergeP_sub (bits : Nat) (l : List (Nat × Nat × CObj)) (h : Heap) : (mergeP bits l h).2.Sublist l := by
  induction l with
  | nil => exact .slnil
  | cons x l ih =>
    obtain ⟨j', id', ob'⟩ := x
    simp only [mergeP]
    split
    · exact .cons _ ih
    · exact .cons_cons _ ih
theorem mergeP_get {bits : Nat} {l : List (Nat × Nat × CObj)} {h : Heap} {b : Nat} {o : CObj} (hg : (mergeP bits l h).1.get b = some o) : (∃ j, (j, b, o) ∈ l ∧ bits.testBit j = true) ∨ h.get b = some o := by
  induction l with
  | nil => exact .inr hg
  | cons x l ih =>
    obtain ⟨j', id', ob'⟩ := x
    simp only [mergeP] at hg
    split at hg
    · rename_i hb
      rw [Tr.get_set] at hg
      split at hg
      · rename_i e
        cases hg
        subst e
        exact .inl ⟨j', .head _, hb⟩
      · rcases ih hg with ⟨j, a, c⟩ | e
        · exact .inl ⟨j, .tail _ a, c⟩
        · exact .inr e
    · rcases ih hg with ⟨j, a, c⟩ | e
      · exact .inl ⟨j, .tail _ a, c⟩
      · exact .inr e
/-- What the operations see is not changed by the merging. -/
theorem mergeP_view {bits : Nat} {l : List (Nat × Nat × CObj)} {h : Heap} {b : Nat} (hp : l.Pairwise fun x y => x.2.1 ≠ y.2.1) : pendGet (mergeP bits l h).2 (mergeP bits l h).1 b = pendGet l h b := by
  induction l with
  | nil => rfl
  | cons x l ih =>
    obtain ⟨j', id', ob'⟩ := x
    have ih := ih hp.tail
    have hne : ∀ y ∈ l, id' ≠ y.2.1 := fun y hy => List.rel_of_pairwise_cons hp hy
    simp only [mergeP]
    split
    · simp only [pendGet]
      have key : ∀ (m : List (Nat × Nat × CObj)) (t : Heap), (∀ y ∈ m, id' ≠ y.2.1) → pendGet m (t.set id' ob') b = if id' = b then some ob' else pendGet m t b := by
        intro m
        induction m with
        | nil => intro t _; simp [pendGet, Tr.get_set]
        | cons y m ihm =>
          intro t hy
          obtain ⟨j2, id2, ob2⟩ := y
          have h2 : id' ≠ id2 := hy _ (.head _)
          simp only [pendGet]
          split
          · rename_i e
            have e := Nat.eq_of_beq_eq_true e
            rw [if_neg (by omega)]
          · exact ihm t fun y h => hy y (.tail _ h)
      rw [key _ _ (fun y hy => hne y ((mergeP_sub bits l h).mem hy)), ih]
      split
      · rename_i e; subst e; rw [show Nat.beq id' id' = true from Nat.beq_refl id']
      · rename_i e
        cases hq : Nat.beq id' b with
        | true => exact absurd (Nat.eq_of_beq_eq_true hq) e
        | false => rfl
    · simp only [pendGet]
      split
      · rfl
      · exact ih
theorem pendGet_some {l : List (Nat × Nat × CObj)} {h : Heap} {b : Nat} {o : CObj} (hg : pendGet l h b = some o) : (∃ j, (j, b, o) ∈ l) ∨ h.get b = some o := by
  induction l with
  | nil => exact .inr hg
  | cons x l ih =>
    obtain ⟨j', id', ob'⟩ := x
    simp only [pendGet] at hg
    split at hg
    · rename_i e
      have := Nat.eq_of_beq_eq_true e
      subst this
      cases hg
      exact .inl ⟨j', .head _⟩
    · rcases ih hg with ⟨j, a⟩ | e
      · exact .inl ⟨j, .tail _ a⟩
      · exact .inr e

section
variable {E : Env} {H : Handler} {dk : Bool} {nt : Nat} {ops : Array Oper} {B : Array Nat} {f : Nat → DS}

/-- A trace of the evaluator's way through the region. -/
structure Trace (E : Env) (H : Handler) (dk : Bool) (nt : Nat) (ops : Array Oper) (B : Array Nat) (f : Nat → DS) : Prop where
  st : ∀ j o, ops[j]? = some o → DK E H dk nt ops B j o (f j) (f (j + 1))
  hx : ∀ {q c h ot c' h'}, H q c h = some (ot, c', h') → Ext c h c' h'
  hB : ∀ i j, bt B i j → j < i
  pn : (f 0).pn = none
  pend : (f 0).pend = []
  rds : (f 0).rds = []
  dom : ∀ b, (f 0).h.get b ≠ none → ¬ ((f 0).c ≤ b ∧ b < (f ops.size).c)

def HvAt (E : Env) (H : Handler) (dk : Bool) (nt : Nat) (ops : Array Oper) (B : Array Nat) (f : Nat → DS) (k : Nat) (h h' : Heap) : Prop := ∃ o v c' u', ops[k]? = some o ∧ HeavyAt E H dk nt ops B k o v c' h h' u' (f k) (f (k + 1))
def AlAt (E : Env) (nt : Nat) (ops : Array Oper) (B : Array Nat) (f : Nat → DS) (j : Nat) (ob : CObj) : Prop := ∃ o v rd, ops[j]? = some o ∧ LightAt E nt ops B j o v (some ob) rd (f j) (f (j + 1))

variable (T : Trace E H dk nt ops B f)
include T

theorem Trace.op {j : Nat} (hj : j < ops.size) : DK E H dk nt ops B j ops[j] (f j) (f (j + 1)) := T.st j _ (Array.getElem?_eq_getElem hj)

theorem Trace.c_le {j : Nat} (hj : j < ops.size) : (f j).c ≤ (f (j + 1)).c := by
  cases T.op hj with
  | skip a b e => rw [e]; exact Nat.le_refl _
  | unw a => rw [a.eq]; exact Nat.le_refl _
  | @light v ob rd a => rw [a.eq]; cases ob with
    | none => exact Nat.le_refl _
    | some x => exact Nat.le_succ _
  | heavy a => rw [a.eq]; exact (hop_ge T.hx a.hop).1
  | pan a => rw [a.eq]; exact (hop_ge T.hx a.hop).1
theorem Trace.c_mono {i j : Nat} (hij : i ≤ j) (hj : j ≤ ops.size) : (f i).c ≤ (f j).c := by
  induction j with
  | zero => obtain rfl : i = 0 := by omega
            exact Nat.le_refl _
  | succ j ih =>
    by_cases e : i = j + 1
    · subst e; exact Nat.le_refl _
    · exact Nat.le_trans (ih (by omega) (by omega)) (T.c_le (by omega))
theorem AlAt.lt {j : Nat} {ob : CObj} (h : AlAt E nt ops B f j ob) : j < ops.size := by
  obtain ⟨o, v, rd, ho, _⟩ := h
  exact (Array.getElem?_eq_some_iff.1 ho).1
theorem HvAt.lt {k : Nat} {h h' : Heap} (hk : HvAt E H dk nt ops B f k h h') : k < ops.size := by
  obtain ⟨o, v, c', u', ho, _⟩ := hk
  exact (Array.getElem?_eq_some_iff.1 ho).1
theorem AlAt.c {j : Nat} {ob : CObj} (h : AlAt E nt ops B f j ob) : (f (j + 1)).c = (f j).c + 1 := by
  obtain ⟨o, v, rd, ho, a⟩ := h
  rw [a.eq]
theorem AlAt.inj {j j' : Nat} {ob ob' : CObj} (h : AlAt E nt ops B f j ob) (h' : AlAt E nt ops B f j' ob') (e : (f j).c = (f j').c) : j = j' := by
  have h1 := h.c T
  have h2 := h'.c T
  rcases Nat.lt_trichotomy j j' with lt | eq | lt
  · have := T.c_mono (i := j + 1) (j := j') (by omega) (Nat.le_of_lt (h'.lt T)); omega
  · exact eq
  · have := T.c_mono (i := j' + 1) (j := j) (by omega) (Nat.le_of_lt (h.lt T)); omega
theorem HvAt.not_al {j : Nat} {ob : CObj} {h h' : Heap} (hk : HvAt E H dk nt ops B f j h h') : ¬ AlAt E nt ops B f j ob := by
  rintro ⟨o, v, rd, ho, a⟩
  obtain ⟨o', _, _, _, ho', b⟩ := hk
  rw [ho] at ho'; cases ho'
  have := b.nl
  rw [a.lop] at this; cases this

theorem Trace.pn_none {i j : Nat} (hij : j ≤ i) (hi : i ≤ ops.size) (hp : (f i).pn = none) : (f j).pn = none := by
  induction i with
  | zero => obtain rfl : j = 0 := by omega
            exact hp
  | succ i ih =>
    by_cases e : j = i + 1
    · subst e; exact hp
    · refine ih (by omega) (by omega) ?_
      cases T.op (show i < ops.size by omega) with
      | skip a b e => rw [← e]; exact hp
      | unw a => rw [a.eq] at hp; exact hp
      | light a => rw [a.eq] at hp; exact hp
      | heavy a => exact a.pn
      | pan a => exact a.pn
theorem Trace.pn_some {i : Nat} (hi : i ≤ ops.size) {p : Nat} {v : Value} {hp : Heap} (he : (f i).pn = some (p, v, hp)) : p < i ∧ ∃ o c' h, ops[p]? = some o ∧ PanAt E H dk nt ops B p o v c' h hp (f p) (f (p + 1)) := by
  induction i with
  | zero => rw [T.pn] at he; cases he
  | succ i ih =>
    have hlt : i < ops.size := by omega
    have next : (f i).pn = some (p, v, hp) → p < i + 1 ∧ ∃ o c' h, ops[p]? = some o ∧ PanAt E H dk nt ops B p o v c' h hp (f p) (f (p + 1)) := fun e => by
      obtain ⟨a, b⟩ := ih (by omega) e
      exact ⟨by omega, b⟩
    cases T.op hlt with
    | skip a b e => rw [e] at he; exact next he
    | unw a => rw [a.eq] at he; exact next he
    | light a => rw [a.eq] at he; exact next he
    | heavy a => rw [a.eq] at he; cases he
    | pan a =>
      have e := a.eq
      rw [e] at he
      simp only [Option.some.injEq, Prod.mk.injEq] at he
      obtain ⟨rfl, rfl, rfl⟩ := he
      exact ⟨by omega, _, _, _, Array.getElem?_eq_getElem hlt, a⟩

theorem Trace.hm {i k : Nat} {h h' : Heap} (hi : i ≤ ops.size) (hk : HvAt E H dk nt ops B f k h h') (hki : k < i) : (f i).hm.testBit k = true := by
  induction i with
  | zero => omega
  | succ i ih =>
    have hlt : i < ops.size := by omega
    by_cases e : k = i
    · subst e
      obtain ⟨o, v, c', u', ho, a⟩ := hk
      rw [a.eq]
      simp
    · have := ih (by omega) (by omega)
      cases T.op hlt with
      | skip a b e => rw [e]; exact this
      | unw a => rw [a.eq]; exact this
      | light a => rw [a.eq]; exact this
      | heavy a => rw [a.eq]; simp [Nat.testBit_or, this]
      | pan a => rw [a.eq]; exact this
theorem Trace.heavy_before {i k : Nat} {h h' : Heap} (hi : i ≤ ops.size) (hk : HvAt E H dk nt ops B f k h h') (hki : k < i) (hm : (f i).hm &&& B.getD i 0 = (f i).hm) : bt B i k := by
  have h1 := T.hm hi hk hki
  have := congrArg (·.testBit k) hm
  simp only [Nat.testBit_and, h1, Bool.true_and] at this
  exact this

theorem Trace.mem_rds {i j : Nat} {o : Oper} {v : Value} {ob : Option CObj} {rd : List Nat} (hi : i ≤ ops.size) (ho : ops[j]? = some o) (hl : LightAt E nt ops B j o v ob rd (f j) (f (j + 1))) (hji : j < i) : (j, rd, againOf E.P (f j).c (opv (f j).tm) o v ob rd) ∈ (f i).rds := by
  induction i with
  | zero => omega
  | succ i ih =>
    have hlt : i < ops.size := by omega
    by_cases e : j = i
    · subst e; rw [hl.eq]; exact .head _
    · have := ih (by omega) (by omega)
      cases T.op hlt with
      | skip a b e => rw [e]; exact this
      | unw a => rw [a.eq]; exact this
      | light a => rw [a.eq]; exact .tail _ this
      | heavy a => rw [a.eq]; exact this
      | pan a => rw [a.eq]; exact this
theorem Trace.mem_hvs {i k : Nat} {h h' : Heap} (hi : i ≤ ops.size) (hk : HvAt E H dk nt ops B f k h h') (hki : k < i) : (k, h, h') ∈ (f i).hvs := by
  induction i with
  | zero => omega
  | succ i ih =>
    have hlt : i < ops.size := by omega
    by_cases e : k = i
    · subst e
      obtain ⟨o, v, c', u', ho, a⟩ := hk
      rw [a.eq]; exact .head _
    · have := ih (by omega) (by omega)
      cases T.op hlt with
      | skip a b e => rw [e]; exact this
      | unw a => rw [a.eq]; exact this
      | light a => rw [a.eq]; exact this
      | heavy a => rw [a.eq]; exact .tail _ this
      | pan a => rw [a.eq]; exact this
theorem Trace.mem_pend {i j id : Nat} {ob : CObj} (hi : i ≤ ops.size) (hm : (j, id, ob) ∈ (f i).pend) : j < i ∧ AlAt E nt ops B f j ob ∧ id = (f j).c ∧ ∀ k h h', HvAt E H dk nt ops B f k h h' → k < i → ¬ bt B k j := by
  induction i with
  | zero => rw [T.pend] at hm; cases hm
  | succ i ih =>
    have hlt : i < ops.size := by omega
    have next : (j, id, ob) ∈ (f i).pend → (∀ h h', HvAt E H dk nt ops B f i h h' → ¬ bt B i j) → j < i + 1 ∧ AlAt E nt ops B f j ob ∧ id = (f j).c ∧ ∀ k h h', HvAt E H dk nt ops B f k h h' → k < i + 1 → ¬ bt B k j := fun e hk => by
      obtain ⟨a, b, c, d⟩ := ih (by omega) e
      refine ⟨by omega, b, c, fun k h h' hv hlt => ?_⟩
      by_cases e : k = i
      · subst e; exact hk h h' hv
      · exact d k h h' hv (by omega)
    have hno : (¬ ∃ h h', HvAt E H dk nt ops B f i h h') → ∀ h h', HvAt E H dk nt ops B f i h h' → ¬ bt B i j := fun hn h h' e => absurd ⟨h, h', e⟩ hn
    have excl : ∀ {o v ob rd}, ops[i]? = some o → LightAt E nt ops B i o v ob rd (f i) (f (i + 1)) → ¬ ∃ h h', HvAt E H dk nt ops B f i h h' := by
      rintro o v ob rd ho a ⟨h, h', o', _, _, _, ho', b⟩
      rw [ho] at ho'; cases ho'
      have := b.nl
      rw [a.lop] at this; cases this
    cases T.op hlt with
    | skip a b e =>
      rw [e] at hm
      exact next hm (hno (by rintro ⟨h, h', o', _, _, _, ho', b⟩; have := b.pn; rw [a] at this; cases this))
    | unw a =>
      rw [a.eq] at hm
      exact next hm (hno (by rintro ⟨h, h', o', _, _, _, ho', b⟩; rw [Array.getElem?_eq_getElem hlt] at ho'; cases ho'; have := b.w; rw [a.w] at this; cases this))
    | @light v ob' rd a =>
      have e := a.eq
      rw [e] at hm
      cases ob' with
      | none => exact next hm (hno (excl (Array.getElem?_eq_getElem hlt) a))
      | some ob2 =>
        rcases List.mem_cons.1 hm with e2 | e2
        · cases e2
          refine ⟨by omega, ⟨_, _, _, Array.getElem?_eq_getElem hlt, a⟩, rfl, fun k h h' hv hk hb => ?_⟩
          have := T.hB _ _ hb
          omega
        · exact next e2 (hno (excl (Array.getElem?_eq_getElem hlt) a))
    | heavy a =>
      have e := a.eq
      rw [e] at hm
      obtain ⟨m1, m2⟩ := mergeP_mem hm
      exact next m1 (fun h h' _ hb => by unfold bt at hb; rw [m2] at hb; cases hb)
    | pan a =>
      have e := a.eq
      rw [e] at hm
      obtain ⟨m1, m2⟩ := mergeP_mem hm
      exact next m1 (fun h h' _ hb => by unfold bt at hb; rw [m2] at hb; cases hb)
end
end Go.Qe
end
section
set_option linter.unusedVariables false
set_option linter.unusedSimpArgs false
namespace Go.Qe
set_option linter.unusedSectionVars false
section
variable {E : Env} {H : Handler} {dk : Bool} {nt : Nat} {ops : Array Oper} {B : Array Nat} {f : Nat → DS}
variable (T : Trace E H dk nt ops B f)
include T

theorem Trace.pend_pw {i : Nat} (hi : i ≤ ops.size) : (f i).pend.Pairwise fun x y => x.2.1 ≠ y.2.1 := by
  induction i with
  | zero => rw [T.pend]; exact .nil
  | succ i ih =>
    have hlt : i < ops.size := by omega
    have ih := ih (by omega)
    cases T.op hlt with
    | skip a b e => rw [e]; exact ih
    | unw a => rw [a.eq]; exact ih
    | @light v ob rd a =>
      have e := a.eq
      rw [e]
      cases ob with
      | none => exact ih
      | some x =>
        refine List.pairwise_cons.2 ⟨fun y hy => ?_, ih⟩
        obtain ⟨j, id, ob⟩ := y
        obtain ⟨h1, h2, rfl, _⟩ := T.mem_pend (by omega) hy
        have := h2.c T
        have := T.c_mono (i := j + 1) (j := i) (by omega) (by omega)
        show (f i).c ≠ (f j).c
        omega
    | heavy a => have e := a.eq; rw [e]; exact ih.sublist (mergeP_sub _ _ _)
    | pan a => have e := a.eq; rw [e]; exact ih.sublist (mergeP_sub _ _ _)

/-- The merged heap ahead of a heavy operation: a new block that lies in it was asked for by this operation or by an earlier one. -/
theorem Trace.dom_merge {i j : Nat} {ob : CObj} (hi : i < ops.size) (hj : AlAt E nt ops B f j ob)
    (ih : (f i).h.get (f j).c ≠ none → ∃ k h h', k < i ∧ HvAt E H dk nt ops B f k h h' ∧ bt B k j)
    (hg : (mergeP (B.getD i 0) (f i).pend (f i).h).1.get (f j).c ≠ none) : bt B i j ∨ ∃ k h h', k < i ∧ HvAt E H dk nt ops B f k h h' ∧ bt B k j := by
  cases hq : (mergeP (B.getD i 0) (f i).pend (f i).h).1.get (f j).c with
  | none => exact absurd hq hg
  | some o =>
    rcases mergeP_get hq with ⟨j', hm, hb⟩ | e
    · obtain ⟨h1, h2, h3, _⟩ := T.mem_pend (by omega) hm
      have := hj.inj T h2 h3
      subst this
      exact .inl hb
    · exact .inr (ih (by rw [e]; simp))
theorem Trace.dom_h {i j : Nat} {ob : CObj} (hi : i ≤ ops.size) (hp : (f i).pn = none) (hj : AlAt E nt ops B f j ob) (hg : (f i).h.get (f j).c ≠ none) : ∃ k h h', k < i ∧ HvAt E H dk nt ops B f k h h' ∧ bt B k j := by
  have hjl := hj.lt T
  have hjc := hj.c T
  induction i with
  | zero =>
    have h1 := T.c_mono (i := 0) (j := j) (by omega) (by omega)
    have h2 := T.c_mono (i := j + 1) (j := ops.size) (by omega) (by omega)
    exact absurd ⟨h1, by omega⟩ (T.dom _ hg)
  | succ i ih =>
    have hlt : i < ops.size := by omega
    have ih := ih (by omega) (T.pn_none (Nat.le_succ i) hi hp)
    have next : (f i).h.get (f j).c ≠ none → ∃ k h h', k < i + 1 ∧ HvAt E H dk nt ops B f k h h' ∧ bt B k j := fun e => by
      obtain ⟨k, h, h', a, b, c⟩ := ih e
      exact ⟨k, h, h', by omega, b, c⟩
    cases T.op hlt with
    | skip a b e => rw [e] at hg; exact next hg
    | unw a => rw [a.eq] at hg; exact next hg
    | light a => rw [a.eq] at hg; exact next hg
    | @heavy v c' h h' u' a =>
      have e := a.eq
      have hv : HvAt E H dk nt ops B f i h h' := ⟨_, _, _, _, Array.getElem?_eq_getElem hlt, a⟩
      rw [e] at hg
      rcases (hop_ge T.hx a.hop).2 _ hg with e1 | e1
      · rw [← a.mg] at e1
        rcases T.dom_merge hlt hj ih e1 with e2 | ⟨k, h2, h3, a1, a2, a3⟩
        · exact ⟨i, _, _, by omega, hv, e2⟩
        · exact ⟨k, _, _, by omega, a2, a3⟩
      · have hc : (f (i + 1)).c = c' := by rw [e]
        have hne : j ≠ i := fun e => by subst e; exact hv.not_al T hj
        rcases Nat.lt_or_ge j i with lt | ge
        · have := T.c_mono (i := j + 1) (j := i) (by omega) (by omega); omega
        · have := T.c_mono (i := i + 1) (j := j) (by omega) (by omega); omega
    | pan a => rw [a.eq] at hp; cases hp

theorem Trace.still {i j : Nat} (hij : i ≤ j) (hj : j ≤ ops.size) (hp : (f j).pn = none) (hn : ∀ k h h', i ≤ k → k < j → ¬ HvAt E H dk nt ops B f k h h') : (f j).h = (f i).h ∧ (f j).u = (f i).u := by
  induction j with
  | zero => obtain rfl : i = 0 := by omega
            exact ⟨rfl, rfl⟩
  | succ j ih =>
    by_cases e : i = j + 1
    · subst e; exact ⟨rfl, rfl⟩
    · have hlt : j < ops.size := by omega
      have ih := ih (by omega) (by omega) (T.pn_none (Nat.le_succ j) hj hp) fun k h h' a b => hn k h h' a (by omega)
      cases T.op hlt with
      | skip a b e => rw [e]; exact ih
      | unw a => rw [a.eq]; exact ih
      | light a => rw [a.eq]; exact ih
      | heavy a => exact absurd ⟨_, _, _, _, Array.getElem?_eq_getElem hlt, a⟩ (hn j _ _ (by omega) (by omega))
      | pan a => rw [a.eq] at hp; cases hp

theorem opv_putT {tm : Tr Value} {dst : Option Nat} {v : Value} {t : Nat} (h : dst ≠ some t) : opv (putT nt tm dst v) (.tmp t) = opv tm (.tmp t) := by
  cases dst with
  | none => rfl
  | some d =>
    have : d ≠ t := fun e => h (by rw [e])
    simp only [putT]
    split
    · simp only [opv, Tr.get_set, if_neg this]
    · rfl
theorem Trace.tm_still {i j t : Nat} (hij : i ≤ j) (hj : j ≤ ops.size) (hn : ∀ k o, i ≤ k → k < j → ops[k]? = some o → o.dst ≠ some t) : opv (f j).tm (.tmp t) = opv (f i).tm (.tmp t) := by
  induction j with
  | zero => obtain rfl : i = 0 := by omega
            rfl
  | succ j ih =>
    by_cases e : i = j + 1
    · subst e; rfl
    · have hlt : j < ops.size := by omega
      have ih := ih (by omega) (by omega) fun k o a b => hn k o a (by omega)
      have hd := hn j _ (by omega) (by omega) (Array.getElem?_eq_getElem hlt)
      rw [← ih]
      cases T.op hlt with
      | skip a b e => rw [e]
      | unw a => rw [a.eq]; exact opv_putT T hd
      | light a => rw [a.eq]; exact opv_putT T hd
      | heavy a => rw [a.eq]; exact opv_putT T hd
      | pan a => rw [a.eq]

/-- What the operations see of a block that nothing turns. -/
theorem Trace.view_step {j b : Nat} (hj : j < ops.size) (ha : ∀ ob, AlAt E nt ops B f j ob → b ≠ (f j).c) (hs : ∀ h h', HvAt E H dk nt ops B f j h h' → h'.get b = h.get b) :
    pendGet (f (j + 1)).pend (f (j + 1)).h b = pendGet (f j).pend (f j).h b := by
  have hpw := T.pend_pw (i := j) (by omega)
  cases T.op hj with
  | skip a b e => rw [e]
  | unw a => rw [a.eq]
  | @light v ob rd a =>
    have e := a.eq
    cases ob with
    | none => rw [e]
    | some x =>
      have hne := ha x ⟨_, _, _, Array.getElem?_eq_getElem hj, a⟩
      rw [e]
      simp only [pendGet]
      split
      · rename_i e2; exact absurd (Nat.eq_of_beq_eq_true e2).symm hne
      · rfl
  | @heavy v c' h h' u' a =>
    have e := a.eq
    have hs := hs h h' ⟨_, _, _, _, Array.getElem?_eq_getElem hj, a⟩
    rw [e]
    have key : ∀ (m : List (Nat × Nat × CObj)), pendGet m h' b = pendGet m h b := by
      intro m
      induction m with
      | nil => exact hs
      | cons y m ih => obtain ⟨j2, id2, ob2⟩ := y; simp only [pendGet]; split <;> first | rfl | exact ih
    show pendGet (mergeP (B.getD j 0) (f j).pend (f j).h).2 h' b = _
    rw [key, ← a.mg]
    exact mergeP_view hpw
  | pan a =>
    have e := a.eq
    rw [e]
    show pendGet (mergeP (B.getD j 0) (f j).pend (f j).h).2 _ b = _
    rw [← a.mg]
    exact mergeP_view hpw
end
end Go.Qe
end
section
set_option linter.unusedVariables false
set_option linter.unusedSimpArgs false
namespace Go.Qe
set_option linter.unusedSectionVars false

namespace Tr
variable {α : Type}
def ov : Tr α → Tr α → Tr α
  | .e, t => t
  | .n l x r, .e => .n l x r
  | .n l x r, .n l' x' r' => .n (ov l l') (x.or x') (ov r r')
theorem get_ov (a : Tr α) : ∀ (b : Tr α) (i : Nat), (a.ov b).get i = (a.get i).or (b.get i) := by
  induction a with
  | e => intro b i; simp [ov]
  | n l x r ihl ihr =>
    intro b i
    cases b with
    | e => simp [ov]
    | n l' x' r' =>
      cases i with
      | zero => rfl
      | succ i => simp only [ov, get]; split <;> simp [ihl, ihr]
def filt : (Nat → Bool) → Tr α → Tr α
  | _, .e => .e
  | p, .n l x r => .n (filt (fun i => p (2 * i + 1)) l) (if p 0 then x else none) (filt (fun i => p (2 * i + 2)) r)
theorem get_filt (a : Tr α) : ∀ (p : Nat → Bool) (i : Nat), (a.filt p).get i = if p i then a.get i else none := by
  induction a with
  | e => intro p i; simp [filt]
  | n l x r ihl ihr =>
    intro p i
    cases i with
    | zero => rfl
    | succ i =>
      simp only [filt, get]
      split
      · rename_i hb
        have h1 := (beq_iff i).1 hb
        rw [ihl, show 2 * (i / 2) + 1 = i + 1 by omega]
      · rename_i hb
        have h2 : ¬ i % 2 = 0 := fun h => by rw [(beq_iff i).2 h] at hb; cases hb
        rw [ihr, show 2 * (i / 2) + 2 = i + 1 by omega]
end Tr

theorem pendGet_none : ∀ {l : List (Nat × Nat × CObj)} {h : Heap} {b : Nat}, (∀ j ob, (j, b, ob) ∉ l) → pendGet l h b = h.get b
  | [], _, _, _ => rfl
  | (j, id, ob) :: l, h, b, hn => by
    simp only [pendGet]
    split
    · rename_i e
      have := Nat.eq_of_beq_eq_true e
      subst this
      exact absurd List.mem_cons_self (hn j ob)
    · exact pendGet_none fun j ob hm => hn j ob (List.mem_cons_of_mem _ hm)
theorem HvAt.same {E : Env} {H : Handler} {dk : Bool} {nt : Nat} {ops : Array Oper} {B : Array Nat} {f : Nat → DS} {k : Nat} {h h' h1 h1' : Heap} (a : HvAt E H dk nt ops B f k h h') (b : HvAt E H dk nt ops B f k h1 h1') : h = h1 ∧ h' = h1' := by
  obtain ⟨o, v, c, u, ho, a⟩ := a
  obtain ⟨o2, v2, c2, u2, ho2, b⟩ := b
  rw [ho] at ho2; cases ho2
  have e1 : h = h1 := a.mg.symm.trans b.mg
  subst e1
  have := a.hop
  rw [b.hop] at this
  simp only [Option.some.injEq, XR.val.injEq] at this
  exact ⟨rfl, this.2.2.1.symm⟩
theorem Stp.widen {κ : Nat → Value} {P : Program} {B : Bd} {G : Nat} {φ φ' : Phi} {h h' : Heap} {w w' : World} {c c' c1 c1' : Nat} (k : Stp κ P B G c c' φ φ' h h' w w') (h1 : c1 ≤ c) (h2 : c' ≤ c1') : Stp κ P B G c1 c1' φ φ' h h' w w' :=
  { cc := by have := k.cc; omega, ext := fun id hid => k.ext id (by omega), new := fun id e => by
      rcases k.new id e with e | e
      · exact .inl e
      · exact .inr (by omega), rel := k.rel, size := k.size, frame := k.frame, own := k.own, tape := k.tape, os := k.os, output := k.output }
theorem Stp.trans_same {κ : Nat → Value} {P : Program} {B : Bd} {G : Nat} {φ φ' φ'' : Phi} {h h' h'' : Heap} {w w' w'' : World} {c c' : Nat} (a : Stp κ P B G c c' φ φ' h h' w w') (b : Stp κ P B G c c' φ' φ'' h' h'' w' w'') : Stp κ P B G c c' φ φ'' h h'' w w'' where
  cc := a.cc
  ext := fun id e => by rw [b.ext id e, a.ext id e]
  new := fun id e => by
    rcases b.new id e with e | e
    · exact a.new id e
    · exact .inr e
  rel := b.rel
  size := Nat.le_trans a.size b.size
  frame := fun β hb hn => by
    rw [b.frame β (by have := a.size; omega) (fun id o r e ew er eb => ?_), a.frame β hb hn]
    rcases a.own id o r e er with ⟨id0, o0, r0, e0, f0, eq, hw⟩ | hge
    · exact hn id0 o0 r0 e0 (hw ew) f0 (eq.trans eb)
    · omega
  own := fun id o r e er => by
    rcases b.own id o r e er with ⟨id0, o0, r0, e0, f0, eq, hw⟩ | hge
    · rcases a.own id0 o0 r0 e0 f0 with ⟨id1, o1, r1, e1, f1, eq1, hw1⟩ | hge
      · exact .inl ⟨id1, o1, r1, e1, f1, eq1.trans eq, fun q => hw1 (hw q)⟩
      · exact .inr (by omega)
    · exact .inr (by have := a.size; omega)
  tape := b.tape.trans a.tape
  os := b.os.trans a.os
  output := b.output.trans a.output

section
variable {E : Env} {H : Handler} {dk : Bool} {nt : Nat} {ops : Array Oper} {B : Array Nat} {f : Nat → DS}

/-- The state of the machine where the operations of D have been carried out. -/
structure Inv (κ : Nat → Value) (E : Env) (H : Handler) (dk : Bool) (nt : Nat) (ops : Array Oper) (B : Array Nat) (f : Nat → DS) (B0 : Bd) (df : List Deferred) (φ0 : Phi) (w0 : World) (D : Nat → Bool) (φ : Phi) (HD : Heap) (m : Nat) (a : Act) (w : World) (um : FrameMode) : Prop where
  stp : Stp κ E.P B0 E.G (f 0).c (f ops.size).c φ0 φ (f 0).h HD w0 w
  down : ∀ i j, D i = true → bt B i j → D j = true
  good : ∀ j, D j = true → j < ops.size ∧ ∀ o v c' h h', ops[j]? = some o → ¬ PanAt E H dk nt ops B j o v c' h h' (f j) (f (j + 1))
  m_le : m ≤ ops.size
  m_pn : (f m).pn = none
  hv : ∀ k h h', HvAt E H dk nt ops B f k h h' → (D k = true ↔ k < m)
  base : ∀ b o, (f m).h.get b = some o → HD.get b = some o
  al : ∀ j ob, AlAt E nt ops B f j ob → D j = true → (∀ k h h', HvAt E H dk nt ops B f k h h' → D k = true → ¬ bt B k j) → HD.get (f j).c = some ob
  fr : ∀ j, j < ops.size → D j = false → ∀ id, (f j).c ≤ id → id < (f (j + 1)).c → φ id = none
  u : UR κ φ (f m).u um
  sz : a.tmps.size = nt
  tm : ∀ t i, i ≤ ops.size → (∀ j o, ops[j]? = some o → o.dst = some t → (D j = true ↔ j < i)) → V κ φ (opv (f i).tm (.tmp t)) (a.tmps.getD t undef)
  df : DVL κ φ df a.defers
  B : B0.n ≤ w.heap.size

def Ready (ops : Array Oper) (B : Array Nat) (D : Nat → Bool) (i : Nat) : Prop := i < ops.size ∧ D i = false ∧ ∀ j, bt B i j → D j = true

theorem tmpsOk_spec (h : tmpsOk ops B = true) {i j : Nat} {oi oj : Oper} {d : Nat} (hi : ops[i]? = some oi) (hj : ops[j]? = some oj) (hne : i ≠ j) (hd : oi.dst = some d) (hn : d ∈ namesOf ops oj) : bt B (max i j) (min i j) := by
  unfold tmpsOk at h
  simp only [Bool.and_eq_true] at h
  have h2 := h.2
  have li := (Array.getElem?_eq_some_iff.1 hi).1
  have lj := (Array.getElem?_eq_some_iff.1 hj).1
  have := List.all_eq_true.1 (List.all_eq_true.1 h2 j (List.mem_range.2 lj)) i (List.mem_range.2 li)
  simp only [hi, hj, hd, Bool.or_eq_true, Bool.not_eq_true', beq_iff_eq] at this
  rcases this with e | e | e
  · exact absurd e hne
  · rw [List.contains_iff_mem.2 hn] at e; cases e
  · exact e
theorem tmpsOk_bound (h : tmpsOk ops B = true) (hs : B.size ≤ ops.size) : ∀ i j, bt B i j → j < i := by
  intro i j hb
  unfold tmpsOk at h
  simp only [Bool.and_eq_true] at h
  have h1 := h.1
  unfold bt at hb
  by_cases hi : i < ops.size
  · have := Nat.le_of_ble_eq_true (List.all_eq_true.1 h1 i (List.mem_range.2 hi))
    have h3 := Nat.ge_two_pow_of_testBit hb
    rcases Nat.lt_or_ge j i with lt | ge
    · exact lt
    · have := Nat.pow_le_pow_right (show 0 < 2 by omega) ge
      omega
  · have : B.getD i 0 = 0 := by
      rw [Array.getD_eq_getD_getElem?, Array.getElem?_eq_none (by omega)]; rfl
    rw [this] at hb; simp at hb

variable {κ : Nat → Value} {B0 : Bd} {df : List Deferred} {φ0 φ : Phi} {w0 w : World} {D : Nat → Bool} {HD : Heap} {m : Nat} {a : Act} {um : FrameMode}
variable (T : Trace E H dk nt ops B f) (I : Inv κ E H dk nt ops B f B0 df φ0 w0 D φ HD m a w um) (ht : tmpsOk ops B = true)

include T I ht
theorem Inv.slots {i : Nat} {o : Oper} (hr : Ready ops B D i) (ho : ops[i]? = some o) {t : Nat} (hn : t ∈ namesOf ops o) : V κ φ (opv (f i).tm (.tmp t)) (a.tmps.getD t undef) := by
  refine I.tm t i (Nat.le_of_lt hr.1) fun j oj hj hd => ?_
  by_cases e : j = i
  · subst e; rw [hr.2.1]; simp
  · have hb := tmpsOk_spec ht hj ho e hd hn
    rcases Nat.lt_or_ge j i with lt | ge
    · rw [Nat.max_eq_right (by omega), Nat.min_eq_left (by omega)] at hb
      exact ⟨fun _ => lt, fun _ => hr.2.2 j hb⟩
    · rw [Nat.max_eq_left (by omega), Nat.min_eq_right (by omega)] at hb
      refine ⟨fun hD => ?_, fun lt => by omega⟩
      have := I.down j i hD hb
      rw [hr.2.1] at this; cases this

theorem Inv.opnds {i : Nat} {o : Oper} (hr : Ready ops B D i) (ho : ops[i]? = some o) (hok : okOpD E.G nt o = true) : ∀ z ∈ o.op.operands, V κ φ (opv (f i).tm z) (a.eval z) := by
  intro z hz
  unfold okOpD okOp at hok
  simp only [Bool.and_eq_true] at hok
  have := hok.1
  rw [Array.all_eq_true'] at this
  refine opv_sound' I.stp.rel (fun t e => ?_) (this z hz)
  subst e
  refine I.slots T ht hr ho ?_
  unfold namesOf
  refine List.mem_append_left _ (List.mem_append_right _ ?_)
  exact List.mem_filterMap.2 ⟨.tmp t, Array.mem_toList_iff.2 hz, rfl⟩
theorem Inv.wanted {i : Nat} {o : Oper} {x : Bool} (hr : Ready ops B D i) (ho : ops[i]? = some o) (hw : wantedC ops (f i).tm o = some x) : Region.wanted o (yielded ops a.tmps) = x := by
  refine wanted_sound' (κ := κ) (φ := φ) (fun j bb d e e2 => ?_) hw
  refine I.slots T ht hr ho ?_
  unfold namesOf
  refine List.mem_append_right _ ?_
  rw [e]
  simp only [e2]
  simp

/-- The slots behind an operation. -/
theorem Inv.tm_next {i : Nat} {o : Oper} (hr : Ready ops B D i) (ho : ops[i]? = some o) (hok : okOpD E.G nt o = true) {φ' : Phi} (hle : φ.le φ') {v v' : Value} (hV : V κ φ' v v') (he : (f (i + 1)).tm = putT nt (f i).tm o.dst v) :
    ∀ t i2, i2 ≤ ops.size → (∀ j o, ops[j]? = some o → o.dst = some t → ((D j || j == i) = true ↔ j < i2)) → V κ φ' (opv (f i2).tm (.tmp t)) ((a.put o.dst v').tmps.getD t undef) := by
  intro t i2 hi2 hc
  by_cases hd : o.dst = some t
  · have hlt : i < i2 := (hc i o ho hd).1 (by simp)
    have hnt : t < nt := by
      unfold okOpD at hok
      simp only [hd, Bool.and_eq_true] at hok
      exact Nat.le_of_ble_eq_true hok.2
    have h1 : opv (f i2).tm (.tmp t) = opv (f (i + 1)).tm (.tmp t) := T.tm_still (by omega) hi2 fun k ok hk hk2 hok hdk => by
      have hD := (hc k ok hok hdk).2 hk2
      simp only [Bool.or_eq_true, beq_iff_eq] at hD
      rcases hD with hD | e
      · have hb := tmpsOk_spec ht ho hok (by omega) hd (by unfold namesOf; rw [hdk]; simp)
        rw [Nat.max_eq_right (by omega), Nat.min_eq_left (by omega)] at hb
        have := I.down k i hD hb
        rw [hr.2.1] at this; cases this
      · omega
    rw [h1, he, hd]
    have h2 : opv (putT nt (f i).tm (some t) v) (.tmp t) = v := by
      simp only [putT, show Nat.blt t nt = true from Nat.ble_eq_true_of_le hnt, opv, Tr.get_set, if_true]
    rw [h2]
    have h3 : (a.put (some t) v').tmps.getD t undef = v' := by
      have := I.sz
      simp only [Act.put]
      rw [Array.getD_eq_getD_getElem?, Array.getElem?_setIfInBounds, if_pos rfl, if_pos (show t < a.tmps.size by rw [this]; exact hnt)]
      rfl
    rw [h3]; exact hV
  · have h1 : (a.put o.dst v').tmps.getD t undef = a.tmps.getD t undef := by
      cases hq : o.dst with
      | none => rfl
      | some d =>
        have hne : d ≠ t := fun e => hd (by rw [hq, e])
        simp only [Act.put]
        rw [Array.getD_eq_getD_getElem?, Array.getD_eq_getD_getElem?, Array.getElem?_setIfInBounds, if_neg hne]
    rw [h1]
    refine (I.tm t i2 hi2 fun j oj hj hdj => ?_).mono hle
    have hne : j ≠ i := fun e => by subst e; rw [ho] at hj; cases hj; exact hd hdj
    have := hc j oj hj hdj
    simpa [hne] using this

theorem Inv.not_hv {i : Nat} {o : Oper} {v : Value} {ob : Option CObj} {rd : List Nat} (ho : ops[i]? = some o) (hl : LightAt E nt ops B i o v ob rd (f i) (f (i + 1))) : ∀ h h', ¬ HvAt E H dk nt ops B f i h h' := by
  rintro h h' ⟨o', _, _, _, ho', hv⟩
  rw [ho] at ho'; cases ho'
  have := hv.nl
  rw [hl.lop] at this; cases this
theorem Inv.hasD {b : Nat} {r : Pl} (hφ : φ b = some r) : ∀ j ob, AlAt E nt ops B f j ob → b = (f j).c → D j = true := by
  intro j ob hj e
  cases hq : D j with
  | true => rfl
  | false =>
    have := hj.c T
    rw [I.fr j (hj.lt T) hq b (by omega) (by omega)] at hφ
    cases hφ
theorem Inv.atm {b : Nat} {x : CObj} {r : Pl} (hφ : φ b = some r) (hm : pendGet (f m).pend (f m).h b = some x) : HD.get b = some x := by
  rcases pendGet_some hm with ⟨j, hj⟩ | e
  · obtain ⟨h1, h2, h3, h4⟩ := T.mem_pend I.m_le hj
    rw [h3]
    exact I.al j x h2 (I.hasD T ht hφ j x h2 h3) fun k h h' hk hD => h4 k h h' hk ((I.hv k h h' hk).1 hD)
  · exact I.base b x e
/-- What a light operation reads lies in the machine's heap: the heavy ones behind it in the text have not been carried out. -/
theorem Inv.reads {i : Nat} {o : Oper} {v : Value} {ob : Option CObj} {rd : List Nat} (hr : Ready ops B D i) (ho : ops[i]? = some o) (hl : LightAt E nt ops B i o v ob rd (f i) (f (i + 1))) (le : m ≤ i) {b : Nat} {x : CObj} {r : Pl} (hb : b ∈ rd)
    (hg : pendGet (f i).pend (f i).h b = some x) (hφ : φ b = some r) : HD.get b = some x := by
  have hin : i < ops.size := hr.1
  have same : ∀ {h h' : Heap}, sameAt rd h h' = true → h'.get b = h.get b := fun e => (obeq_eq (List.all_eq_true.1 e b hb)).symm
  have hasD := I.hasD T ht hφ
  have bw : ∀ d, d ≤ i - m → pendGet (f (i - d)).pend (f (i - d)).h b = some x ∨ HD.get b = some x := by
    intro d
    induction d with
    | zero => intro _; exact .inl hg
    | succ d ih =>
      intro hd
      rcases ih (by omega) with e | e
      · have hq : i - d = (i - (d + 1)) + 1 := by omega
        rw [hq] at e
        have hqn : i - (d + 1) < ops.size := by omega
        by_cases ha : ∃ ob', AlAt E nt ops B f (i - (d + 1)) ob' ∧ b = (f (i - (d + 1))).c
        · obtain ⟨ob', ha, hbc⟩ := ha
          right
          have h1 := I.al _ ob' ha (hasD _ _ ha hbc) fun k h h' hk hD hbk => by
            have := (I.hv k h h' hk).1 hD
            have := T.hB _ _ hbk
            omega
          have h2 : pendGet (f (i - (d + 1) + 1)).pend (f (i - (d + 1) + 1)).h b = some ob' := by
            obtain ⟨oq, vq, rq, hoq, hlq⟩ := ha
            rw [hlq.eq, hbc]
            simp only [pendGet]
            rw [show Nat.beq (f (i - (d + 1))).c (f (i - (d + 1))).c = true from Nat.beq_refl _]
          rw [h2] at e
          rw [hbc, h1]; exact e
        · left
          rw [T.view_step hqn (fun ob' h1 h2 => ha ⟨ob', h1, h2⟩) (fun h h' hk => ?_)] at e
          · exact e
          · have hnD : ¬ D (i - (d + 1)) = true := fun hD => by have := (I.hv _ _ _ hk).1 hD; omega
            rcases hl.hvs _ _ _ (T.mem_hvs (by omega) hk (by omega)) with hb2 | hs
            · exact absurd (hr.2.2 _ hb2) hnD
            · exact same hs
      · exact .inr e
  rcases bw (i - m) (Nat.le_refl _) with e | e
  · rw [show i - (i - m) = m by omega] at e
    exact I.atm T ht hφ e
  · exact e
/-- A light operation comes to the same over what lies in the machine's heap. -/
theorem Inv.lopd {i : Nat} {o : Oper} {v : Value} {ob : Option CObj} {rd : List Nat} (hr : Ready ops B D i) (ho : ops[i]? = some o) (hl : LightAt E nt ops B i o v ob rd (f i) (f (i + 1))) :
    ∃ g, lop E.P (f i).c g (opv (f i).tm) o = some ⟨v, ob, rd⟩ ∧ ∀ b ∈ rd, ∀ x r, g b = some x → φ b = some r → HD.get b = some x := by
  rcases Nat.le_total m i with le | le
  · exact ⟨_, hl.lop, fun b hb x r hg hφ => I.reads T ht hr ho hl le hb hg hφ⟩
  · have fw : ∀ d, i + d ≤ m → ∃ g, lop E.P (f i).c g (opv (f i).tm) o = some ⟨v, ob, rd⟩ ∧ ∀ b ∈ rd, ∀ x r, g b = some x → φ b = some r → pendGet (f (i + d)).pend (f (i + d)).h b = some x := by
      intro d
      induction d with
      | zero => intro _; exact ⟨_, hl.lop, fun b _ x r hg _ => hg⟩
      | succ d ih =>
        intro hd
        obtain ⟨g, hg, hv⟩ := ih (by omega)
        have hml := I.m_le
        have noal : ∀ {b : Nat} {x : CObj}, pendGet (f (i + d)).pend (f (i + d)).h b = some x → ∀ ob', AlAt E nt ops B f (i + d) ob' → b ≠ (f (i + d)).c := by
          intro b x hx ob' ha e
          rcases pendGet_some hx with ⟨j, hj⟩ | e2
          · obtain ⟨h1, h2, h3, _⟩ := T.mem_pend (by omega) hj
            have := ha.inj T h2 (e ▸ h3)
            omega
          · obtain ⟨k, _, _, h1, _, h3⟩ := T.dom_h (i := i + d) (by omega) (T.pn_none (by omega) I.m_le I.m_pn) ha (by rw [← e, e2]; simp)
            have := T.hB _ _ h3
            omega
        by_cases hk : ∃ h h', HvAt E H dk nt ops B f (i + d) h h'
        · obtain ⟨h, h', hk⟩ := hk
          have hD := (I.hv _ _ _ hk).2 (by omega)
          have hne : d ≠ 0 := fun e => by subst e; exact Inv.not_hv T I ht ho hl h h' hk
          have hk0 := hk
          obtain ⟨ok, vk, ck, uk, hok, hvk⟩ := hk
          rcases hvk.rds i rd _ (T.mem_rds (by omega) ho hl (by omega)) with hb2 | hs | hag
          · have := I.down _ _ hD hb2
            rw [hr.2.1] at this; cases this
          · refine ⟨g, hg, fun b hb x r hx hφ => ?_⟩
            have h1 := hv b hb x r hx hφ
            rw [show i + (d + 1) = (i + d) + 1 by omega, T.view_step (by omega) (noal h1) fun h1 h1' hk1 => ?_]
            · exact h1
            · have e1 := HvAt.same hk0 hk1
              obtain ⟨rfl, rfl⟩ := e1
              exact (obeq_eq (List.all_eq_true.1 hs b hb)).symm
          · unfold againOf at hag
            split at hag
            · cases hag
            · split at hag
              · rename_i v' rd' hlq
                simp only [Bool.and_eq_true, beq_iff_eq] at hag
                obtain ⟨e1, e2⟩ := hag
                have e1 := vbeq_eq _ _ e1
                subst e1 e2
                refine ⟨h'.get, hlq, fun b hb x r hx hφ => ?_⟩
                have heq : (f (i + (d + 1))).h = h' := by rw [show i + (d + 1) = (i + d) + 1 by omega, hvk.eq]
                rw [heq, ← hx]
                refine pendGet_none fun j ob' hm => ?_
                obtain ⟨h1, h2, h3, h4⟩ := T.mem_pend (by omega) hm
                obtain ⟨k, a, a', h5, h6, h7⟩ := T.dom_h (i := i + (d + 1)) (by omega) (T.pn_none (by omega) I.m_le I.m_pn) h2 (by rw [heq, ← h3, hx]; simp)
                exact h4 k a a' h6 h5 h7
              · cases hag
        · refine ⟨g, hg, fun b hb x r hx hφ => ?_⟩
          have h1 := hv b hb x r hx hφ
          rw [show i + (d + 1) = (i + d) + 1 by omega, T.view_step (by omega) (noal h1) fun a a' hk1 => absurd ⟨a, a', hk1⟩ hk]
          exact h1
    obtain ⟨g, h1, h2⟩ := fw (m - i) (by omega)
    refine ⟨g, h1, fun b hb x r hg hφ => I.atm T ht hφ ?_⟩
    have := h2 b hb x r hg hφ
    rwa [show i + (m - i) = m by omega] at this
end
end Go.Qe
end
section
set_option linter.unusedVariables false
set_option linter.unusedSimpArgs false
namespace Go.Qe
set_option linter.unusedSectionVars false
section
variable {E : Env} {H : Handler} {dk : Bool} {nt : Nat} {ops : Array Oper} {B : Array Nat} {f : Nat → DS}
variable {κ : Nat → Value} {B0 : Bd} {df : List Deferred} {φ0 φ : Phi} {w0 w : World} {D : Nat → Bool} {HD : Heap} {m : Nat} {a : Act} {um : FrameMode} {b : Frame} {CS : FrameMode → List Frame} {k : List Item}
variable (T : Trace E H dk nt ops B f) (I : Inv κ E H dk nt ops B f B0 df φ0 w0 D φ HD m a w um) (ht : tmpsOk ops B = true)

def plus (D : Nat → Bool) (i : Nat) : Nat → Bool := fun j => D j || j == i
theorem plus_true {D : Nat → Bool} {i j : Nat} : plus D i j = true ↔ D j = true ∨ j = i := by simp [plus]
theorem plus_false {D : Nat → Bool} {i j : Nat} (h : plus D i j = false) : D j = false ∧ j ≠ i := by simpa [plus] using h

include T in
theorem ranges_apart {i j id : Nat} (hi : i < ops.size) (hj : j < ops.size) (hne : j ≠ i) (h1 : (f j).c ≤ id) (h2 : id < (f (j + 1)).c) : ¬ ((f i).c ≤ id ∧ id < (f (i + 1)).c) := by
  rcases Nat.lt_or_ge i j with lt | ge
  · have := T.c_mono (i := i + 1) (j := j) (by omega) (by omega); omega
  · have := T.c_mono (i := j + 1) (j := i) (by omega) (by omega); omega

include T I ht

/-- What every step of the invariant shares. -/
theorem Inv.next {i : Nat} {o : Oper} {φ' : Phi} {HD' : Heap} {m' : Nat} {w' : World} {um' : FrameMode} {v v' : Value} (hr : Ready ops B D i) (ho : ops[i]? = some o) (hok : okOpD E.G nt o = true)
    (hng : ∀ o v c' h h', ops[i]? = some o → ¬ PanAt E H dk nt ops B i o v c' h h' (f i) (f (i + 1))) (hs : Stp κ E.P B0 E.G (f i).c (f (i + 1)).c φ φ' HD HD' w w') (hV : V κ φ' v v') (he : (f (i + 1)).tm = putT nt (f i).tm o.dst v)
    (hml : m' ≤ ops.size) (hmp : (f m').pn = none) (hhv : ∀ k h h', HvAt E H dk nt ops B f k h h' → (plus D i k = true ↔ k < m')) (hbase : ∀ b o, (f m').h.get b = some o → HD'.get b = some o)
    (hal : ∀ j ob, AlAt E nt ops B f j ob → plus D i j = true → (∀ k h h', HvAt E H dk nt ops B f k h h' → plus D i k = true → ¬ bt B k j) → HD'.get (f j).c = some ob) (hu : UR κ φ' (f m').u um') :
    Inv κ E H dk nt ops B f B0 df φ0 w0 (plus D i) φ' HD' m' (a.put o.dst v') w' um' := by
  have hin := hr.1
  have hle := hs.le (fun id h1 h2 => I.fr i hin hr.2.1 id h1 h2)
  have hc1 := T.c_mono (i := 0) (j := i) (by omega) (by omega)
  have hc2 := T.c_mono (i := i + 1) (j := ops.size) (by omega) (by omega)
  refine { stp := I.stp.trans_same (hs.widen hc1 hc2), down := ?_, good := ?_, m_le := hml, m_pn := hmp, hv := hhv, base := hbase, al := hal, fr := ?_, u := hu, sz := ?_, tm := I.tm_next T ht hr ho hok hle hV he, df := ?_, B := Nat.le_trans I.B hs.size }
  · intro i2 j hD hb
    rw [plus_true] at hD ⊢
    rcases hD with hD | rfl
    · exact .inl (I.down _ _ hD hb)
    · exact .inl (hr.2.2 j hb)
  · intro j hD
    rw [plus_true] at hD
    rcases hD with hD | rfl
    · exact I.good j hD
    · exact ⟨hin, hng⟩
  · intro j hj hD id h1 h2
    obtain ⟨hD, hne⟩ := plus_false hD
    rw [hs.ext id (ranges_apart T hin hj hne h1 h2)]
    exact I.fr j hj hD id h1 h2
  · have := I.sz
    cases o.dst with
    | none => exact this
    | some d => simp [Act.put, this]
  · rw [put_defers]; exact I.df.mono hle

theorem Inv.step_unw {i : Nat} {o : Oper} {rest : List Nat} (hr : Ready ops B D i) (ho : ops[i]? = some o) (hu : UnwAt E nt ops B i o (f i) (f (i + 1))) :
    ∃ a', Inv κ E H dk nt ops B f B0 df φ0 w0 (plus D i) φ HD m a' w um ∧ Steps E.P (lone (b.atR a (.inRegion ops (i :: rest) :: k)) (CS um) w) (lone (b.atR a' (.inRegion ops rest :: k)) (CS um) w) := by
  have hnh : ∀ h h', ¬ HvAt E H dk nt ops B f i h h' := by
    rintro h h' ⟨o', _, _, _, ho', hv⟩
    rw [ho] at ho'; cases ho'
    have := hv.w; rw [hu.w] at this; cases this
  have hna : ∀ ob, ¬ AlAt E nt ops B f i ob := by
    rintro ob ⟨o', _, _, ho', hl⟩
    rw [ho] at ho'; cases ho'
    have := hl.w; rw [hu.w] at this; cases this
  have hkD : ∀ k h h', HvAt E H dk nt ops B f k h h' → (plus D i k = true ↔ D k = true) := fun k h h' hk => by
    rw [plus_true]
    exact ⟨fun e => e.elim id fun e => by subst e; exact absurd hk (hnh _ _), .inl⟩
  have hw := I.wanted T ht hr ho hu.w
  refine ⟨a.put o.dst undef, I.next T ht (v := undef) (v' := undef) hr ho hu.ok ?_ ((Stp.refl I.stp.rel (c := (f i).c)).widen (Nat.le_refl _) (T.c_le hr.1)) (.af rfl) (by rw [hu.eq]) I.m_le I.m_pn ?_ I.base ?_ I.u, ?_⟩
  · intro o' v c' h h' ho' hp
    rw [ho] at ho'; cases ho'
    have := hp.w; rw [hu.w] at this; cases this
  · intro k h h' hk
    rw [hkD k h h' hk]; exact I.hv k h h' hk
  · intro j ob hj hD hh
    rw [plus_true] at hD
    rcases hD with hD | rfl
    · exact I.al j ob hj hD fun k h h' hk hDk => hh k h h' hk ((hkD k h h' hk).2 hDk)
    · exact absurd hj (hna ob)
  · have := stepR_op_skip (P := E.P) (b := b) (a := a) (k := k) (cs := CS um) (w := w) (ops := ops) (i := i) (rest := rest) (by rw [ho]; simpa using hw)
    rw [ho] at this
    exact .one this

theorem Inv.step_light {i : Nat} {o : Oper} {rest : List Nat} {v : Value} {ob : Option CObj} {rd : List Nat} (hr : Ready ops B D i) (ho : ops[i]? = some o) (hl : LightAt E nt ops B i o v ob rd (f i) (f (i + 1))) (hG : E.G ≤ (f 0).c) :
    ∃ φ' HD' a' w', Inv κ E H dk nt ops B f B0 df φ0 w0 (plus D i) φ' HD' m a' w' um ∧ Steps E.P (lone (b.atR a (.inRegion ops (i :: rest) :: k)) (CS um) w) (lone (b.atR a' (.inRegion ops rest :: k)) (CS um) w') := by
  have hnh : ∀ h h', ¬ HvAt E H dk nt ops B f i h h' := by
    rintro h h' ⟨o', _, _, _, ho', hv⟩
    rw [ho] at ho'; cases ho'
    have := hv.nl; rw [hl.lop] at this; cases this
  have hng : ∀ o v c' h h', ops[i]? = some o → ¬ PanAt E H dk nt ops B i o v c' h h' (f i) (f (i + 1)) := by
    intro o' v' c' h h' ho' hp
    rw [ho] at ho'; cases ho'
    have := hp.nl; rw [hl.lop] at this; cases this
  have hkD : ∀ k h h', HvAt E H dk nt ops B f k h h' → (plus D i k = true ↔ D k = true) := fun k h h' hk => by
    rw [plus_true]
    exact ⟨fun e => e.elim id fun e => by subst e; exact absurd hk (hnh _ _), .inl⟩
  have hal1 : ∀ ob', AlAt E nt ops B f i ob' → ob = some ob' := by
    rintro ob' ⟨o', _, _, ho', hl'⟩
    rw [ho] at ho'; cases ho'
    have := hl'.lop; rw [hl.lop] at this
    simp only [Option.some.injEq, LR.mk.injEq] at this
    exact this.2.1
  have hw := I.wanted T ht hr ho hl.w
  have hO := I.opnds T ht hr ho hl.ok
  have hnd : ∀ cl, o.op ≠ .defer cl := by
    intro cl e
    have hq := hl.lop
    obtain ⟨d, op, ty, pos, aft, g⟩ := o
    simp only at e
    subst e
    simp [lop] at hq
  have hcm := T.c_mono (i := 0) (j := i) (by omega) (Nat.le_of_lt hr.1)
  have hfr : ∀ x, ob = some x → (f (i + 1)).c = (f i).c + 1 := fun x e => by subst e; rw [hl.eq]
  have hc : ob ≠ none → φ (f i).c = none := fun hne => by
    cases hq : ob with
    | none => exact absurd hq hne
    | some x => exact I.fr i hr.1 hr.2.1 _ (Nat.le_refl _) (by rw [hfr x hq]; omega)
  obtain ⟨gv, hlop, hgv⟩ := I.lopd T ht hr ho hl
  obtain ⟨v', w', hrun, hstep⟩ := lop_sound hlop hO (w := w) (fun bb hb x hg r hφ => by
    have := hgv bb hb x r hg hφ
    obtain ⟨r0, x0, h1, h2, h3, _⟩ := I.stp.rel.obj bb x this
    rw [hφ] at h1; cases h1
    exact ⟨x0, h2, h3⟩) hc
  cases ob with
  | none =>
    obtain ⟨rfl, hV⟩ := hstep
    refine ⟨φ, HD, a.put o.dst v', w', I.next T ht hr ho hl.ok hng ((Stp.refl I.stp.rel (c := (f i).c)).widen (Nat.le_refl _) (T.c_le hr.1)) hV (by rw [hl.eq]) I.m_le I.m_pn ?_ I.base ?_ I.u, .one (st_value ho hw hnd hrun)⟩
    · intro k h h' hk
      rw [hkD k h h' hk]; exact I.hv k h h' hk
    · intro j ob hj hD hh
      rw [plus_true] at hD
      rcases hD with hD | rfl
      · exact I.al j ob hj hD fun k h h' hk hDk => hh k h h' hk ((hkD k h h' hk).2 hDk)
      · cases hal1 _ hj
  | some x =>
    obtain ⟨x', es, sz, e1, e2, e3, e4, hob, hV⟩ := hstep
    have hc0 := hc (by simp)
    have hle := Phi.le_upd (φ := φ) ⟨w.heap.size, 0, es, sz⟩ hc0
    have hs := stp_new (r := ⟨w.heap.size, 0, es, sz⟩) I.stp.rel hc0 (by omega) I.B rfl e1 e2 e3 e4 hob
    have hnone : ∀ o1, HD.get (f i).c = some o1 → False := fun o1 e => by
      obtain ⟨r, _, h1, _⟩ := I.stp.rel.obj _ _ e
      rw [hc0] at h1; cases h1
    refine ⟨_, _, a.put o.dst v', w', I.next T ht hr ho hl.ok hng (hs.widen (Nat.le_refl _) (by rw [hfr x rfl]; exact Nat.le_refl _)) hV (by rw [hl.eq]) I.m_le I.m_pn ?_ ?_ ?_ (I.u.mono hle), .one (st_value ho hw hnd hrun)⟩
    · intro k h h' hk
      rw [hkD k h h' hk]; exact I.hv k h h' hk
    · intro bb o1 e
      have := I.base bb o1 e
      rw [Tr.get_set, if_neg (fun e2 => by subst e2; exact hnone _ this)]
      exact this
    · intro j ob hj hD hh
      rw [plus_true] at hD
      rw [Tr.get_set]
      rcases hD with hD | rfl
      · have hne : ¬ (f i).c = (f j).c := fun e => by
          have : AlAt E nt ops B f i x := ⟨_, _, _, ho, hl⟩
          have := this.inj T hj e
          subst this
          rw [hr.2.1] at hD; cases hD
        rw [if_neg hne]
        exact I.al j ob hj hD fun k h h' hk hDk => hh k h h' hk ((hkD k h h' hk).2 hDk)
      · rw [if_pos rfl]; exact hal1 _ hj

/-- Ahead of a heavy operation: its heap is a part of the machine's. -/
theorem Inv.heavy_pre {i : Nat} (hr : Ready ops B D i) (hpn : (f i).pn = none) (hm : (f i).hm &&& B.getD i 0 = (f i).hm) (hng : ∀ k h h', HvAt E H dk nt ops B f k h h' → i < k → bt B k i) :
    (∀ k h h', HvAt E H dk nt ops B f k h h' → (D k = true ↔ k < i)) ∧ (f i).u = (f m).u ∧ Qe.sub (mergeP (B.getD i 0) (f i).pend (f i).h).1 HD := by
  have hkd : ∀ k h h', HvAt E H dk nt ops B f k h h' → (D k = true ↔ k < i) := by
    intro k h h' hk
    constructor
    · intro hD
      rcases Nat.lt_trichotomy k i with lt | rfl | lt
      · exact lt
      · rw [hr.2.1] at hD; cases hD
      · have := I.down _ _ hD (hng k h h' hk lt)
        rw [hr.2.1] at this; cases this
    · intro lt
      exact hr.2.2 _ (T.heavy_before (Nat.le_of_lt hr.1) hk lt hm)
  have hst : (f i).h = (f m).h ∧ (f i).u = (f m).u := by
    rcases Nat.le_total m i with le | le
    · exact T.still le (Nat.le_of_lt hr.1) hpn fun k h h' h1 h2 hk => by
        have := (hkd k h h' hk).2 h2
        have := (I.hv k h h' hk).1 this
        omega
    · have := T.still le I.m_le I.m_pn fun k h h' h1 h2 hk => by
        have := (I.hv k h h' hk).2 h2
        have := (hkd k h h' hk).1 this
        omega
      exact ⟨this.1.symm, this.2.symm⟩
  refine ⟨hkd, hst.2, fun bb x hg => ?_⟩
  rcases mergeP_get hg with ⟨j, hm, hb⟩ | e
  · obtain ⟨h1, h2, rfl, h4⟩ := T.mem_pend (Nat.le_of_lt hr.1) hm
    exact I.al j x h2 (hr.2.2 j hb) fun k h h' hk hD => h4 k h h' hk ((hkd k h h' hk).1 hD)
  · rw [hst.1] at e
    exact I.base bb x e

theorem Inv.step_heavy (hH : HOk κ E.P B0 E.G H) (hid : ∀ f, E.idf f = true → ∀ v w, (callFunc f #[v]).run E.P w = .ok (.value v) w) (hcs : CsOk dk b CS)
    {i : Nat} {o : Oper} {rest : List Nat} {v : Value} {c' : Nat} {h h' : Heap} {u' : U} (hr : Ready ops B D i) (ho : ops[i]? = some o) (hv : HeavyAt E H dk nt ops B i o v c' h h' u' (f i) (f (i + 1))) (hG : E.G ≤ (f 0).c) :
    ∃ φ' HD' m' a' w' um', Inv κ E H dk nt ops B f B0 df φ0 w0 (plus D i) φ' HD' m' a' w' um' ∧ Steps E.P (lone (b.atR a (.inRegion ops (i :: rest) :: k)) (CS um) w) (lone (b.atR a' (.inRegion ops rest :: k)) (CS um') w') := by
  have hme : HvAt E H dk nt ops B f i h h' := ⟨_, _, _, _, ho, hv⟩
  have hng : ∀ o v c' h h', ops[i]? = some o → ¬ PanAt E H dk nt ops B i o v c' h h' (f i) (f (i + 1)) := by
    intro o' v' c' h h' ho' hp
    have e1 := hv.eq
    have e2 := hp.eq
    have : (f (i + 1)).pn = none := by rw [e1]
    rw [e2] at this; cases this
  have hafter : ∀ k h2 h2', HvAt E H dk nt ops B f k h2 h2' → i < k → bt B k i := by
    intro k h2 h2' hk lt
    obtain ⟨ok, _, _, _, hok, hvk⟩ := hk
    exact T.heavy_before (Nat.le_of_lt (Array.getElem?_eq_some_iff.1 hok).1) hme lt hvk.hm
  obtain ⟨hkd, hum, hsub⟩ := I.heavy_pre T ht hr hv.pn hv.hm hafter
  rw [hv.mg] at hsub
  have hw := I.wanted T ht hr ho hv.w
  have hO := I.opnds T ht hr ho hv.ok
  have hcm := T.c_mono (i := 0) (j := i) (by omega) (Nat.le_of_lt hr.1)
  have hc' : (f (i + 1)).c = c' := by rw [hv.eq]
  have hfr : fresh φ (f i).c c' := fun id h1 h2 => I.fr i hr.1 hr.2.1 id h1 (by omega)
  have hu := I.u
  rw [← hum] at hu
  have hx := hop_sound (b := b) (CS := CS) (a := a) (um := um) hH hid hv.hop hO (I.stp.rel.sub hsub) (by omega) I.B hu hcs hfr
  obtain ⟨φ', w', um', v', hs, hV, hu2, hst⟩ := hx ops i rest k ho hw
  -- the heap behind it
  have hHD : ∀ bb, (h'.ov (HD.filt fun bb => (h.get bb).isNone)).get bb = (h'.get bb).or (if (h.get bb).isNone then HD.get bb else none) := fun bb => by rw [Tr.get_ov, Tr.get_filt]
  have hfrm : Stp κ E.P B0 E.G (f i).c c' φ φ' HD (h'.ov (HD.filt fun bb => (h.get bb).isNone)) w w' := hs.framed I.stp.rel hsub hfr fun id x e => by
    rw [hHD] at e
    cases hq : h'.get id with
    | some y => rw [hq] at e; exact .inl e
    | none =>
      rw [hq] at e
      simp only [Option.none_or] at e
      split at e
      · rename_i hn
        exact .inr ⟨e, by simpa using hn⟩
      · cases e
  have hh1 : (f (i + 1)).h = h' := by rw [hv.eq]
  have hu1 : (f (i + 1)).u = u' := by rw [hv.eq]
  refine ⟨φ', _, i + 1, a.put o.dst v', w', um', I.next T ht hr ho hv.ok hng (hc' ▸ hfrm) hV (by rw [hv.eq]) hr.1 (by rw [hv.eq]) ?_ ?_ ?_ (by rw [hu1]; exact hu2), hst⟩
  · intro k h2 h2' hk
    rw [plus_true]
    constructor
    · rintro (hD | rfl)
      · have := (hkd k _ _ hk).1 hD; omega
      · omega
    · intro lt
      by_cases e : k = i
      · exact .inr e
      · exact .inl ((hkd k _ _ hk).2 (by omega))
  · intro bb x e
    rw [hh1] at e
    rw [hHD, e]; rfl
  · intro j ob hj hD hh
    rw [plus_true] at hD
    have hne : j ≠ i := fun e => by subst e; exact hme.not_al T hj
    have hD : D j = true := hD.resolve_right hne
    have h1 := I.al j ob hj hD fun k h2 h2' hk hDk => hh k h2 h2' hk (plus_true.2 (.inl hDk))
    have hnb : ¬ bt B i j := hh i _ _ hme (plus_true.2 (.inr rfl))
    have h2 : h.get (f j).c = none := by
      cases hq : h.get (f j).c with
      | none => rfl
      | some y =>
        have hq2 : (mergeP (B.getD i 0) (f i).pend (f i).h).1.get (f j).c ≠ none := by rw [hv.mg, hq]; simp
        rcases T.dom_merge hr.1 hj (fun e => T.dom_h (Nat.le_of_lt hr.1) hv.pn hj e) hq2 with e | ⟨k, h2, h2', lt, hk, hb⟩
        · exact absurd e hnb
        · exact absurd hb (hh k _ _ hk (plus_true.2 (.inl ((hkd k _ _ hk).2 lt))))
    have h3 : h'.get (f j).c = none := by
      cases hq : h'.get (f j).c with
      | none => rfl
      | some y =>
        have hjc := hj.c T
        rcases (hop_ge T.hx hv.hop).2 (f j).c (by rw [hq]; simp) with e | e
        · exact absurd h2 e
        · exact absurd (show (f i).c ≤ (f j).c ∧ (f j).c < (f (i + 1)).c from ⟨e.1, by omega⟩) (ranges_apart T hr.1 (hj.lt T) hne (Nat.le_refl _) (by omega))
    rw [hHD, h3, h2]
    exact h1

theorem Inv.step_pan (hH : HOk κ E.P B0 E.G H) (hid : ∀ f, E.idf f = true → ∀ v w, (callFunc f #[v]).run E.P w = .ok (.value v) w) (hcs : CsOk dk b CS)
    {i : Nat} {o : Oper} {rest : List Nat} {v : Value} {c' : Nat} {h h' : Heap} (hr : Ready ops B D i) (ho : ops[i]? = some o) (hv : PanAt E H dk nt ops B i o v c' h h' (f i) (f (i + 1))) (hG : E.G ≤ (f 0).c) :
    ∃ φ' w' v', Stp κ E.P B0 E.G (f 0).c (f ops.size).c φ0 φ' (f 0).h h' w0 w' ∧ V κ φ' v v' ∧ UR κ φ' (f i).u um ∧ DVL κ φ' df a.defers ∧
      Steps E.P (lone (b.atR a (.inRegion ops (i :: rest) :: k)) (CS um) w) (lone { b.atR a (.inRegion ops (i :: rest) :: k) with mode := .panicking [{ v := v', recovered := false }] } (CS um) w') := by
  have hafter : ∀ k h2 h2', HvAt E H dk nt ops B f k h2 h2' → i < k → bt B k i := by
    intro k h2 h2' hk lt
    obtain ⟨ok, _, _, _, hok, hvk⟩ := hk
    have := T.pn_none (i := k) (j := i + 1) (by omega) (Nat.le_of_lt (Array.getElem?_eq_some_iff.1 hok).1) hvk.pn
    rw [hv.eq] at this; cases this
  obtain ⟨hkd, hum, hsub⟩ := I.heavy_pre T ht hr hv.pn hv.hm hafter
  rw [hv.mg] at hsub
  have hw := I.wanted T ht hr ho hv.w
  have hO := I.opnds T ht hr ho hv.ok
  have hcm := T.c_mono (i := 0) (j := i) (by omega) (Nat.le_of_lt hr.1)
  have hc' : (f (i + 1)).c = c' := by rw [hv.eq]
  have hcn := T.c_mono (i := i + 1) (j := ops.size) hr.1 (Nat.le_refl _)
  have hfr : fresh φ (f i).c c' := fun id h1 h2 => I.fr i hr.1 hr.2.1 id h1 (by omega)
  have hu := I.u
  rw [← hum] at hu
  have hx := hop_sound (b := b) (CS := CS) (a := a) (um := um) hH hid hv.hop hO (I.stp.rel.sub hsub) (by omega) I.B hu hcs hfr
  obtain ⟨φ', w', v', hs, hV, hst⟩ := hx ops i rest k ho hw
  have hle := hs.le hfr
  have hfrm : Stp κ E.P B0 E.G (f i).c c' φ φ' HD h' w w' := hs.framed I.stp.rel hsub hfr fun id x e => .inl e
  exact ⟨φ', w', v', I.stp.trans_same (hfrm.widen hcm (by omega)), hV, hu.mono hle, I.df.mono hle, hst⟩
end
end Go.Qe
end
section
set_option linter.unusedVariables false
set_option linter.unusedSimpArgs false
namespace Go.Qe
set_option linter.unusedSectionVars false

/-! ### What 'before' says -/
def bval (acc : Array Nat) (o : Oper) : Nat := o.after.foldl (fun s e => if Region.binds .any e then s ||| 2 ^ e.on ||| acc.getD e.on 0 else s) 0
theorem bval_bits (acc : Array Nat) (j : Nat) : ∀ (l : List Edge) (s : Nat), (l.foldl (fun s e => if Region.binds .any e then s ||| 2 ^ e.on ||| acc.getD e.on 0 else s) s).testBit j = true ↔ s.testBit j = true ∨ ∃ e ∈ l, Region.binds .any e = true ∧ (j = e.on ∨ (acc.getD e.on 0).testBit j = true) := by
  intro l
  induction l with
  | nil => intro s; simp
  | cons e l ih =>
    intro s
    simp only [List.foldl_cons]
    rw [ih]
    by_cases hb : Region.binds .any e = true
    · rw [if_pos hb]
      simp only [Nat.testBit_or, Bool.or_eq_true, Nat.testBit_two_pow, decide_eq_true_eq]
      constructor
      · rintro ((((h | h) | h)) | ⟨e', h1, h2, h3⟩)
        · exact .inl h
        · exact .inr ⟨e, .head _, hb, .inl h.symm⟩
        · exact .inr ⟨e, .head _, hb, .inr h⟩
        · exact .inr ⟨e', .tail _ h1, h2, h3⟩
      · rintro (h | ⟨e', h1, h2, h3⟩)
        · exact .inl (.inl (.inl h))
        · rcases List.mem_cons.1 h1 with rfl | h1
          · rcases h3 with h3 | h3
            · exact .inl (.inl (.inr h3.symm))
            · exact .inl (.inr h3)
          · exact .inr ⟨e', h1, h2, h3⟩
    · rw [if_neg hb]
      constructor
      · rintro (h | ⟨e', h1, h2, h3⟩)
        · exact .inl h
        · exact .inr ⟨e', .tail _ h1, h2, h3⟩
      · rintro (h | ⟨e', h1, h2, h3⟩)
        · exact .inl h
        · rcases List.mem_cons.1 h1 with rfl | h1
          · exact absurd h2 hb
          · exact .inr ⟨e', h1, h2, h3⟩
theorem before_aux : ∀ (l : List Oper) (acc : Array Nat), (l.foldl (fun acc o => acc.push (bval acc o)) acc).size = acc.size + l.length ∧ (∀ i, i < acc.size → (l.foldl (fun acc o => acc.push (bval acc o)) acc)[i]? = acc[i]?) ∧
    ∀ i o, l[i]? = some o → ∃ acc', acc'.size = acc.size + i ∧ (∀ j, j < acc'.size → (l.foldl (fun acc o => acc.push (bval acc o)) acc)[j]? = acc'[j]?) ∧ (l.foldl (fun acc o => acc.push (bval acc o)) acc)[acc.size + i]? = some (bval acc' o) := by
  intro l
  induction l with
  | nil => intro acc; exact ⟨rfl, fun _ _ => rfl, fun i o h => by simp at h⟩
  | cons x l ih =>
    intro acc
    obtain ⟨h1, h2, h3⟩ := ih (acc.push (bval acc x))
    simp only [List.foldl_cons]
    refine ⟨by rw [h1]; simp; omega, fun i hi => ?_, fun i o ho => ?_⟩
    · rw [h2 i (by simp; omega), Array.getElem?_push, if_neg (by omega)]
    · cases i with
      | zero =>
        simp only [List.getElem?_cons_zero, Option.some.injEq] at ho
        subst ho
        refine ⟨acc, rfl, fun j hj => ?_, ?_⟩
        · rw [h2 j (by simp; omega), Array.getElem?_push, if_neg (by omega)]
        · rw [Nat.add_zero, h2 _ (by simp)]; simp
      | succ i =>
        obtain ⟨acc', a1, a2, a3⟩ := h3 i o (by simpa using ho)
        refine ⟨acc', by rw [a1]; simp; omega, a2, ?_⟩
        rw [← a3]; congr 1; simp; omega
theorem before_size (ops : Array Oper) : (Region.before ops).size = ops.size := by
  have := (before_aux ops.toList #[]).1
  unfold Region.before
  rw [← Array.foldl_toList]
  simpa [bval] using this
theorem before_spec {ops : Array Oper} (hB : ∀ i j, bt (Region.before ops) i j → j < i) {i : Nat} {o : Oper} (ho : ops[i]? = some o) :
    (∀ j, bt (Region.before ops) i j → ∃ e ∈ o.after, Region.binds .any e = true ∧ (j = e.on ∨ bt (Region.before ops) e.on j)) ∧ ∀ e ∈ o.after, Region.binds .any e = true → bt (Region.before ops) i e.on := by
  have e0 : Region.before ops = ops.toList.foldl (fun acc o => acc.push (bval acc o)) #[] := by
    unfold Region.before
    rw [← Array.foldl_toList]; rfl
  obtain ⟨acc', a1, a2, a3⟩ := (before_aux ops.toList #[]).2.2 i o (by simpa using ho)
  rw [← e0] at a2 a3
  simp only [List.size_toArray, List.length_nil, Nat.zero_add] at a1 a3
  have hbit : ∀ j, bt (Region.before ops) i j ↔ ∃ e ∈ o.after.toList, Region.binds .any e = true ∧ (j = e.on ∨ (acc'.getD e.on 0).testBit j = true) := by
    intro j
    unfold bt
    rw [Array.getD_eq_getD_getElem?, a3]
    simp only [Option.getD_some, bval]
    rw [← Array.foldl_toList, bval_bits]
    simp
  constructor
  · intro j hj
    obtain ⟨e, h1, h2, h3⟩ := (hbit j).1 hj
    refine ⟨e, Array.mem_toList_iff.1 h1, h2, ?_⟩
    rcases h3 with h3 | h3
    · exact .inl h3
    · right
      unfold bt
      by_cases hlt : e.on < acc'.size
      · rw [Array.getD_eq_getD_getElem?, a2 _ hlt, ← Array.getD_eq_getD_getElem?]; exact h3
      · have : acc'.getD e.on 0 = 0 := by rw [Array.getD_eq_getD_getElem?, Array.getElem?_eq_none (by omega)]; rfl
        rw [this] at h3; simp at h3
  · intro e he hb
    exact (hbit e.on).2 ⟨e, Array.mem_toList_iff.2 he, hb, .inl rfl⟩

theorem count_set : ∀ (l : List Bool) (i : Nat), l[i]? = some false → (l.set i true).count false + 1 = l.count false := by
  intro l
  induction l with
  | nil => intro i h; simp at h
  | cons x l ih =>
    intro i h
    cases i with
    | zero => simp at h; subst h; simp
    | succ i =>
      have := ih i (by simpa using h)
      simp only [List.set_cons_succ, List.count_cons]
      omega

section
variable {E : Env} {H : Handler} {dk : Bool} {nt : Nat} {ops : Array Oper} {f : Nat → DS}
variable {κ : Nat → Value} {B0 : Bd} {df : List Deferred} {φ0 : Phi} {w0 : World} {b : Frame} {CS : FrameMode → List Frame} {k : List Item}

theorem draw_go (T : Trace E H dk nt ops (Region.before ops) f) (ht : tmpsOk ops (Region.before ops) = true) (hH : HOk κ E.P B0 E.G H) (hid : ∀ f, E.idf f = true → ∀ v w, (callFunc f #[v]).run E.P w = .ok (.value v) w) (hcs : CsOk dk b CS) (hG : E.G ≤ (f 0).c) :
    ∀ (fuel t : Nat) (listed : Array Bool) (φ : Phi) (HD : Heap) (m : Nat) (a : Act) (w : World) (um : FrameMode), listed.size = ops.size → listed.toList.count false = fuel →
    Inv κ E H dk nt ops (Region.before ops) f B0 df φ0 w0 (fun j => listed.getD j false) φ HD m a w um →
    (∃ D φ' HD' m' a' w' um', Inv κ E H dk nt ops (Region.before ops) f B0 df φ0 w0 D φ' HD' m' a' w' um' ∧ (∀ i, i < ops.size → D i = true) ∧
      Steps E.P (lone (b.atR a (.inRegion ops (Region.linearise.go .any ops fuel t listed []) :: k)) (CS um) w) (lone (b.atR a' (.inRegion ops [] :: k)) (CS um') w')) ∨
    (∃ i o v c' h h' φ' a' w' um' v' todo, ops[i]? = some o ∧ PanAt E H dk nt ops (Region.before ops) i o v c' h h' (f i) (f (i + 1)) ∧ Stp κ E.P B0 E.G (f 0).c (f ops.size).c φ0 φ' (f 0).h h' w0 w' ∧ V κ φ' v v' ∧ UR κ φ' (f i).u um' ∧ DVL κ φ' df a'.defers ∧
      Steps E.P (lone (b.atR a (.inRegion ops (Region.linearise.go .any ops fuel t listed []) :: k)) (CS um) w) (lone { b.atR a' todo with mode := .panicking [{ v := v', recovered := false }] } (CS um') w')) := by
  intro fuel
  induction fuel with
  | zero =>
    intro t listed φ HD m a w um hsz hc I
    refine .inl ⟨_, φ, HD, m, a, w, um, I, fun i hi => ?_, Steps.refl _ _⟩
    have := List.count_eq_zero.1 hc
    have hi' : i < listed.size := by omega
    cases hq : listed[i] with
    | true => simp [Array.getD_eq_getD_getElem?, Array.getElem?_eq_getElem hi', hq]
    | false => exact absurd (by rw [← hq]; exact Array.getElem_mem_toList hi') this
  | succ fuel ih =>
    intro t listed φ HD m a w um hsz hc I
    have hgd : ∀ i, i < ops.size → (listed.getD i true = listed.getD i false) := fun i hi => by
      simp [Array.getD_eq_getD_getElem?, Array.getElem?_eq_getElem (show i < listed.size by omega)]
    have hrdy : ∀ i, i ∈ Region.ready .any ops listed → Ready ops (Region.before ops) (fun j => listed.getD j false) i := by
      intro i hi
      simp only [Region.ready, List.mem_filter, List.mem_range, Bool.and_eq_true, Bool.not_eq_true'] at hi
      obtain ⟨hlt, h1, h2⟩ := hi
      refine ⟨hlt, by show listed.getD i false = false; rw [← hgd i hlt]; exact h1, fun j hj => ?_⟩
      rw [Array.getElem?_eq_getElem hlt] at h2
      simp only [Option.map_some, Option.getD_some] at h2
      rw [Array.all_eq_true'] at h2
      obtain ⟨e, he, hb, hor⟩ := (before_spec T.hB (Array.getElem?_eq_getElem hlt)).1 j hj
      have := h2 e he
      rw [hb] at this
      simp only [Bool.not_true, Bool.false_or] at this
      rcases hor with rfl | hb2
      · exact this
      · exact I.down _ _ this hb2
    have hne : Region.ready .any ops listed ≠ [] := by
      have key : ∀ n i, i ≤ n → i < ops.size → listed.getD i false = false → Region.ready .any ops listed ≠ [] := by
        intro n
        induction n with
        | zero =>
          intro i hi hlt hu hnil
          have hmem : i ∈ Region.ready .any ops listed := by
            simp only [Region.ready, List.mem_filter, List.mem_range, Bool.and_eq_true, Bool.not_eq_true']
            refine ⟨hlt, by rw [hgd i hlt]; exact hu, ?_⟩
            rw [Array.getElem?_eq_getElem hlt]
            simp only [Option.map_some, Option.getD_some]
            rw [Array.all_eq_true']
            intro e he
            cases hb : Region.binds .any e with
            | false => rfl
            | true =>
              have := T.hB _ _ ((before_spec T.hB (Array.getElem?_eq_getElem hlt)).2 e he hb)
              omega
          rw [hnil] at hmem; cases hmem
        | succ n ihn =>
          intro i hi hlt hu hnil
          have hmem : i ∈ Region.ready .any ops listed := by
            simp only [Region.ready, List.mem_filter, List.mem_range, Bool.and_eq_true, Bool.not_eq_true']
            refine ⟨hlt, by rw [hgd i hlt]; exact hu, ?_⟩
            rw [Array.getElem?_eq_getElem hlt]
            simp only [Option.map_some, Option.getD_some]
            rw [Array.all_eq_true']
            intro e he
            cases hb : Region.binds .any e with
            | false => rfl
            | true =>
              have := T.hB _ _ ((before_spec T.hB (Array.getElem?_eq_getElem hlt)).2 e he hb)
              cases hq : listed.getD e.on false with
              | true => rfl
              | false => exact absurd hnil (ihn e.on (by omega) (by omega) hq)
          rw [hnil] at hmem; cases hmem
      have : false ∈ listed.toList := List.count_pos_iff.1 (by omega)
      obtain ⟨i, hi, he⟩ := List.getElem_of_mem this
      have hi' : i < listed.size := by simpa using hi
      exact key i i (Nat.le_refl _) (by omega) (by simp only [Array.getD_eq_getD_getElem?, Array.getElem?_eq_getElem hi']; simpa using he)
    simp only [Region.linearise.go]
    change (∃ D φ' HD' m' a' w' um', Inv κ E H dk nt ops (Region.before ops) f B0 df φ0 w0 D φ' HD' m' a' w' um' ∧ (∀ i, i < ops.size → D i = true) ∧
      Steps E.P (lone (b.atR a (.inRegion ops (match (Region.ready .any ops listed)[t % (Region.ready .any ops listed).length]? with
      | some i => Region.linearise.go .any ops fuel (t / (Region.ready .any ops listed).length) (listed.setIfInBounds i true) [i]
      | none => [].reverse) :: k)) (CS um) w) (lone (b.atR a' (.inRegion ops [] :: k)) (CS um') w')) ∨
      (∃ i o v c' h h' φ' a' w' um' v' todo, ops[i]? = some o ∧ PanAt E H dk nt ops (Region.before ops) i o v c' h h' (f i) (f (i + 1)) ∧ Stp κ E.P B0 E.G (f 0).c (f ops.size).c φ0 φ' (f 0).h h' w0 w' ∧ V κ φ' v v' ∧ UR κ φ' (f i).u um' ∧ DVL κ φ' df a'.defers ∧
      Steps E.P (lone (b.atR a (.inRegion ops (match (Region.ready .any ops listed)[t % (Region.ready .any ops listed).length]? with
      | some i => Region.linearise.go .any ops fuel (t / (Region.ready .any ops listed).length) (listed.setIfInBounds i true) [i]
      | none => [].reverse) :: k)) (CS um) w) (lone { b.atR a' todo with mode := .panicking [{ v := v', recovered := false }] } (CS um') w'))
    cases hi : (Region.ready .any ops listed)[t % (Region.ready .any ops listed).length]? with
    | none =>
      exfalso
      apply hne
      cases hr : Region.ready .any ops listed with
      | nil => rfl
      | cons x xs =>
        rw [hr] at hi
        have hlt : t % (x :: xs).length < (x :: xs).length := Nat.mod_lt _ (by simp)
        rw [List.getElem?_eq_none_iff] at hi
        omega
    | some i =>
      simp only []
      rw [linearise_go_acc, List.reverse_singleton, List.singleton_append]
      have hr := hrdy i (List.mem_of_getElem? hi)
      have ho : ops[i]? = some (ops[i]'hr.1) := Array.getElem?_eq_getElem hr.1
      have hD : (fun j => (listed.setIfInBounds i true).getD j false) = plus (fun j => listed.getD j false) i := by
        funext j
        simp only [plus, Array.getD_eq_getD_getElem?, Array.getElem?_setIfInBounds]
        by_cases e : i = j
        · subst e; simp [hsz, hr.1]
        · simp only [if_neg e]
          have : (j == i) = false := by simp; omega
          rw [this, Bool.or_false]
      have hcount : (listed.setIfInBounds i true).toList.count false = fuel := by
        have h1 : listed.toList[i]? = some false := by
          have h2 : listed.getD i false = false := hr.2.1
          have hi' : i < listed.size := by rw [hsz]; exact hr.1
          simp only [Array.getD_eq_getD_getElem?, Array.getElem?_eq_getElem hi', Option.getD_some] at h2
          simp [h2, hi']
        have := count_set _ _ h1
        rw [Array.toList_setIfInBounds]
        omega
      have key : (∃ φ' HD' m' a' w' um', Inv κ E H dk nt ops (Region.before ops) f B0 df φ0 w0 (plus (fun j => listed.getD j false) i) φ' HD' m' a' w' um' ∧ Steps E.P (lone (b.atR a (.inRegion ops (i :: Region.linearise.go .any ops fuel (t / (Region.ready .any ops listed).length) (listed.setIfInBounds i true) []) :: k)) (CS um) w) (lone (b.atR a' (.inRegion ops (Region.linearise.go .any ops fuel (t / (Region.ready .any ops listed).length) (listed.setIfInBounds i true) []) :: k)) (CS um') w')) ∨
          (∃ o v c' h h' φ' w' v' todo, ops[i]? = some o ∧ PanAt E H dk nt ops (Region.before ops) i o v c' h h' (f i) (f (i + 1)) ∧ Stp κ E.P B0 E.G (f 0).c (f ops.size).c φ0 φ' (f 0).h h' w0 w' ∧ V κ φ' v v' ∧ UR κ φ' (f i).u um ∧ DVL κ φ' df a.defers ∧
            Steps E.P (lone (b.atR a (.inRegion ops (i :: Region.linearise.go .any ops fuel (t / (Region.ready .any ops listed).length) (listed.setIfInBounds i true) []) :: k)) (CS um) w) (lone { b.atR a todo with mode := .panicking [{ v := v', recovered := false }] } (CS um) w')) := by
        cases T.st i _ ho with
        | skip h1 h2 h3 =>
          obtain ⟨_, o, c', h, hop, hp⟩ := T.pn_some (Nat.le_of_lt hr.1) h1
          exact absurd hp ((I.good _ (hr.2.2 _ h2)).2 _ _ _ _ _ hop)
        | unw hu =>
          obtain ⟨a', I', hst⟩ := I.step_unw (b := b) (CS := CS) (k := k) T ht hr ho hu
          exact .inl ⟨_, _, _, _, _, _, I', hst⟩
        | light hl =>
          obtain ⟨φ', HD', a', w', I', hst⟩ := I.step_light (b := b) (CS := CS) (k := k) T ht hr ho hl hG
          exact .inl ⟨_, _, _, _, _, _, I', hst⟩
        | heavy hv =>
          obtain ⟨φ', HD', m', a', w', um', I', hst⟩ := I.step_heavy (b := b) (CS := CS) (k := k) T ht hH hid hcs hr ho hv hG
          exact .inl ⟨_, _, _, _, _, _, I', hst⟩
        | pan hv =>
          obtain ⟨φ', w', v', s1, s2, s3, s4, s5⟩ := I.step_pan (b := b) (CS := CS) (k := k) T ht hH hid hcs hr ho hv hG
          exact .inr ⟨_, _, _, _, _, φ', w', v', _, ho, hv, s1, s2, s3, s4, s5⟩
      rcases key with ⟨φ', HD', m', a', w', um', I', hst⟩ | ⟨o, v, c', h, h', φ', w', v', todo, q0, q1, s1, s2, s3, s4, s5⟩
      · rcases ih (t / (Region.ready .any ops listed).length) (listed.setIfInBounds i true) φ' HD' m' a' w' um' (by simpa using hsz) hcount (by rw [hD]; exact I') with ⟨D, φ2, HD2, m2, a2, w2, um2, q1, q2, q3⟩ | ⟨i2, o2, v2, c2, h2, h2', φ2, a2, w2, um2, v2', todo2, q1, q2, q3, q4, q5, q6, q7⟩
        · exact Or.inl ⟨D, φ2, HD2, m2, a2, w2, um2, q1, q2, hst.trans q3⟩
        · exact Or.inr ⟨i2, o2, v2, c2, h2, h2', φ2, a2, w2, um2, v2', todo2, q1, q2, q3, q4, q5, q6, hst.trans q7⟩
      · exact Or.inr ⟨i, o, v, c', h, h', φ', a, w', um, v', todo, q0, q1, s1, s2, s3, s4, s5⟩
end
end Go.Qe
end
section
set_option linter.unusedVariables false
set_option linter.unusedSimpArgs false
namespace Go.Qe
set_option linter.unusedSectionVars false

theorem Stp.shrink {κ : Nat → Value} {P : Program} {B : Bd} {G : Nat} {φ φ' : Phi} {h H' h' : Heap} {w w' : World} {c c' : Nat} (k : Stp κ P B G c c' φ φ' h H' w w') (hs : Qe.sub h' H') : Stp κ P B G c c' φ φ' h h' w w' :=
  { cc := k.cc, ext := k.ext, new := fun id e => k.new id (fun e2 => by
      cases hq : h'.get id with
      | none => exact e hq
      | some x => rw [hs _ _ hq] at e2; cases e2), rel := k.rel.sub hs, size := k.size, frame := k.frame, own := fun id o r e f => k.own id o r (hs _ _ e) f, tape := k.tape, os := k.os, output := k.output }

theorem mergeAll_get {l : List (Nat × Nat × CObj)} {h : Heap} {b : Nat} {o : CObj} (hg : (mergeAll l h).get b = some o) : (∃ j, (j, b, o) ∈ l) ∨ h.get b = some o := by
  induction l with
  | nil => exact .inr hg
  | cons x l ih =>
    obtain ⟨j', id', ob'⟩ := x
    simp only [mergeAll, Tr.get_set] at hg
    split at hg
    · rename_i e; cases hg; subst e; exact .inl ⟨j', .head _⟩
    · rcases ih hg with ⟨j, a⟩ | e
      · exact .inl ⟨j, .tail _ a⟩
      · exact .inr e

section
variable {E : Env} {H : Handler} {dk : Bool} {nt : Nat} {ops : Array Oper} {B : Array Nat}

/-- What a drawn region makes of the counter and the heap's numbers. -/
theorem drawOps_ext (hm : ∀ {q c h ot c' h'}, H q c h = some (ot, c', h') → Ext c h c' h') {c0 : Nat} {h0 : Heap} : ∀ {l : List Oper} {i : Nat} {s sN : DS}, drawOps E H dk nt ops B l i s = some sN →
    Ext c0 h0 s.c s.h → (∀ j id ob, (j, id, ob) ∈ s.pend → c0 ≤ id ∧ id < s.c) → (∀ p v hp, s.pn = some (p, v, hp) → Ext c0 h0 s.c hp) →
    Ext c0 h0 sN.c sN.h ∧ (∀ j id ob, (j, id, ob) ∈ sN.pend → c0 ≤ id ∧ id < sN.c) ∧ (∀ p v hp, sN.pn = some (p, v, hp) → Ext c0 h0 sN.c hp) := by
  intro l
  induction l with
  | nil => intro i s sN h a b c; simp only [drawOps, Option.some.injEq] at h; subst h; exact ⟨a, b, c⟩
  | cons o l ih =>
    intro i s sN h ha hb hc
    obtain ⟨s', hd, h'⟩ := drawOps_cons h
    have hmerge : Ext c0 h0 s.c (mergeP (B.getD i 0) s.pend s.h).1 := ⟨ha.1, fun id e => by
      cases hq : (mergeP (B.getD i 0) s.pend s.h).1.get id with
      | none => exact absurd hq e
      | some x =>
        rcases mergeP_get hq with ⟨j, hj, _⟩ | e2
        · exact .inr (hb _ _ _ hj)
        · exact ha.2 id (by rw [e2]; simp)⟩
    cases hd with
    | skip _ _ e => subst e; exact ih h' ha hb hc
    | unw a => have e := a.eq; subst e; exact ih h' ha hb hc
    | @light v ob rd a =>
      have e := a.eq
      cases ob with
      | none => subst e; exact ih h' ha hb hc
      | some x =>
        subst e
        refine ih h' (ha.trans ⟨Nat.le_succ _, fun _ e => .inl e⟩) ?_ ?_
        · intro j id ob hj
          rcases List.mem_cons.1 hj with e | e
          · cases e; exact ⟨ha.1, Nat.lt_succ_self _⟩
          · have := hb _ _ _ e
            exact ⟨this.1, Nat.lt_succ_of_lt this.2⟩
        · intro p v hp e
          exact (hc p v hp e).trans ⟨Nat.le_succ _, fun _ e => .inl e⟩
    | heavy a =>
      have e := a.eq
      subst e
      have h1 := hop_ge hm a.hop
      refine ih h' (hmerge.trans (by rw [a.mg]; exact h1)) ?_ (fun p v hp e => by cases e)
      intro j id ob hj
      have := hb _ _ _ (mergeP_mem hj).1
      exact ⟨this.1, Nat.lt_of_lt_of_le this.2 h1.1⟩
    | pan a =>
      have e := a.eq
      subst e
      have h1 := hop_ge hm a.hop
      refine ih h' ?_ ?_ ?_
      · have := hmerge
        rw [a.mg] at this
        exact this.trans ⟨h1.1, fun _ e => .inl e⟩
      · intro j id ob hj
        have := hb _ _ _ (mergeP_mem hj).1
        exact ⟨this.1, Nat.lt_of_lt_of_le this.2 h1.1⟩
      · intro p v hp e
        simp only [Option.some.injEq, Prod.mk.injEq] at e
        obtain ⟨_, _, rfl⟩ := e
        exact hmerge.trans (by rw [a.mg]; exact h1)

theorem Trace.pn_keep {f : Nat → DS} (T : Trace E H dk nt ops B f) {i j : Nat} (hij : i ≤ j) (hj : j ≤ ops.size) {x : Nat × Value × Heap} (hp : (f i).pn = some x) : (f j).pn = some x ∧ (f j).u = (f i).u := by
  induction j with
  | zero => obtain rfl : i = 0 := by omega
            exact ⟨hp, rfl⟩
  | succ j ih =>
    by_cases e : i = j + 1
    · subst e; exact ⟨hp, rfl⟩
    · have ih := ih (by omega) (by omega)
      cases T.op (show j < ops.size by omega) with
      | skip _ _ e => rw [e]; exact ih
      | unw a => rw [a.eq]; exact ih
      | light a => rw [a.eq]; exact ih
      | heavy a => have := a.pn; rw [ih.1] at this; cases this
      | pan a => have := a.pn; rw [ih.1] at this; cases this

variable {κ : Nat → Value} {B0 : Bd} {df : List Deferred} {b : Frame} {CS : FrameMode → List Frame} {k : List Item}

theorem drawOps_sound (hH : HOk κ E.P B0 E.G H) (hid : ∀ f, E.idf f = true → ∀ v w, (callFunc f #[v]).run E.P w = .ok (.value v) w) (hcs : CsOk dk b CS) (hmix : E.P.follows .mixedOrders = true)
    (ht : tmpsOk ops (Region.before ops) = true) {tm : Tr Value} {c : Nat} {h : Heap} {u : U} {s : DS} {φ : Phi} {a : Act} {w : World} {um : FrameMode} {id : Nat}
    (hd : drawOps E H dk nt ops (Region.before ops) ops.toList 0 { tm, c, h, u, pend := [], rds := [], hvs := [], hm := 0, pn := none } = some s) (hS : SR κ E.P B0 E.G nt φ tm df h u a w um) (hG : E.G ≤ c) (hf : fresh φ c s.c) :
    (s.pn = none → ∃ φ' a' w' um', Stp κ E.P B0 E.G c s.c φ φ' h (mergeAll s.pend s.h) w w' ∧ SR κ E.P B0 E.G nt φ' s.tm df (mergeAll s.pend s.h) s.u a' w' um' ∧
      Steps E.P (lone (b.atR a (.code (.region id ops true) :: k)) (CS um) w) (lone (b.atR a' k) (CS um') w')) ∧
    (∀ p v hp, s.pn = some (p, v, hp) → ∃ φ' a' w' um' v' todo, Stp κ E.P B0 E.G c s.c φ φ' h hp w w' ∧ V κ φ' v v' ∧ UR κ φ' s.u um' ∧ DVL κ φ' df a'.defers ∧
      Steps E.P (lone (b.atR a (.code (.region id ops true) :: k)) (CS um) w) (lone { b.atR a' todo with mode := .panicking [{ v := v', recovered := false }] } (CS um') w')) := by
  obtain ⟨f, h0, hn, hst⟩ := drawOps_trace (by simp) (by simp) hd
  have hB := tmpsOk_bound ht (Nat.le_of_eq (before_size ops))
  have T : Trace E H dk nt ops (Region.before ops) f := {
    st := fun j o => hst j o (Nat.zero_le _)
    hx := hH.ext
    hB := hB
    pn := by rw [h0]
    pend := by rw [h0]
    rds := by rw [h0]
    dom := fun bb hb hh => by
      rw [h0, hn] at hh
      rw [h0] at hb
      cases hq : h.get bb with
      | none => exact hb hq
      | some x =>
        obtain ⟨r, _, h1, _⟩ := hS.rel.obj bb x hq
        rw [hf bb hh.1 hh.2] at h1; cases h1 }
  have hc0 : (f 0).c = c := by rw [h0]
  have hcn : (f ops.size).c = s.c := by rw [hn]
  have hle : c ≤ s.c := by
    have := T.c_mono (i := 0) (j := ops.size) (Nat.zero_le _) (Nat.le_refl _)
    omega
  have hw1 : Rel κ E.P B0 E.G φ h { w with drawn := w.drawn + 1 } := ⟨hS.rel.obj, hS.rel.inj, hS.rel.glob, hS.rel.base⟩
  have hstp0 : Stp κ E.P B0 E.G c c φ φ h h w { w with drawn := w.drawn + 1 } :=
    ⟨Nat.le_refl _, fun _ _ => rfl, fun _ e => .inl e, hw1, Nat.le_refl _, fun _ _ _ => rfl, fun i o r e e' => .inl ⟨i, o, r, e, e', rfl, fun q => q⟩, rfl, rfl, rfl⟩
  have hDf : ∀ j, (Array.replicate ops.size false).getD j false = false := fun j => by
    rw [Array.getD_eq_getD_getElem?, Array.getElem?_replicate]
    split <;> rfl
  have I : Inv κ E H dk nt ops (Region.before ops) f B0 df φ w (fun j => (Array.replicate ops.size false).getD j false) φ h 0 a { w with drawn := w.drawn + 1 } um := {
    stp := by rw [h0, hn]; exact hstp0.widen (Nat.le_refl _) hle
    down := fun i j hD => by rw [hDf] at hD; cases hD
    good := fun j hD => by rw [hDf] at hD; cases hD
    m_le := Nat.zero_le _
    m_pn := T.pn
    hv := fun k h h' _ => by rw [hDf]; simp
    base := fun bb o e => by rw [h0] at e; exact e
    al := fun j ob _ hD => by rw [hDf] at hD; cases hD
    fr := fun j hj _ id h1 h2 => by
      have := T.c_mono (i := 0) (j := j) (Nat.zero_le _) (Nat.le_of_lt hj)
      have := T.c_mono (i := j + 1) (j := ops.size) hj (Nat.le_refl _)
      exact hf id (by omega) (by omega)
    u := by rw [h0]; exact hS.u
    sz := hS.tm.size
    tm := fun t i hi hc => by
      rw [T.tm_still (Nat.zero_le i) hi fun k o _ hk ho hd => by
        have := (hc k o ho hd).2 hk
        rw [hDf] at this; cases this]
      rw [h0]
      exact hS.tm.val t
    df := hS.df
    B := hS.B }
  have hcount : (Array.replicate ops.size false).toList.count false = ops.size := by simp
  have hstep := stepR_region_draw (P := E.P) (b := b) (a := a) (k := k) (cs := CS um) (w := w) (ops := ops) (id := id)
  rw [show Region.schedule (E.P.follows .mixedOrders) ops (w.tape w.drawn (.order b.fn id)) = Region.linearise.go .any ops ops.size (w.tape w.drawn (.order b.fn id)) (Array.replicate ops.size false) [] by
    simp only [Region.schedule, hmix, Bool.true_or, if_true]; rfl] at hstep
  rcases draw_go (b := b) (CS := CS) (k := k) T ht hH hid hcs (by omega) ops.size (w.tape w.drawn (.order b.fn id)) (Array.replicate ops.size false) φ h 0 a { w with drawn := w.drawn + 1 } um (by simp) hcount I with
    ⟨D, φ', HD', m', a', w', um', I', hall, hgo⟩ | ⟨i, o, v, c', h1, h1', φ', a', w', um', v', todo, ho, hp, s1, s2, s3, s4, s5⟩
  · have hno : s.pn = none := by
      cases hq : s.pn with
      | none => rfl
      | some x =>
        obtain ⟨p, v, hp⟩ := x
        rw [← hn] at hq
        obtain ⟨hlt, o, c', h, hop, hpp⟩ := T.pn_some (Nat.le_refl _) hq
        exact absurd hpp ((I'.good p (hall p hlt)).2 _ _ _ _ _ hop)
    refine ⟨fun _ => ?_, fun p v hp e => by rw [hno] at e; cases e⟩
    have hnn : (f ops.size).pn = none := by rw [hn]; exact hno
    have hst2 := T.still I'.m_le (Nat.le_refl _) hnn fun k h h' hk1 hk2 hk => by
      have := (I'.hv k h h' hk).1 (hall k hk2)
      omega
    have hsub : Qe.sub (mergeAll s.pend s.h) HD' := by
      intro bb x e
      rcases mergeAll_get e with ⟨j, hj⟩ | e
      · rw [← hn] at hj
        obtain ⟨q1, q2, rfl, q4⟩ := T.mem_pend (Nat.le_refl _) hj
        exact I'.al j x q2 (hall j q1) fun k h h' hk _ => q4 k h h' hk (hk.lt T)
      · rw [← hn, hst2.1] at e
        exact I'.base bb x e
    have hS2 := I'.stp.shrink hsub
    rw [hc0, hcn, h0] at hS2
    refine ⟨φ', a', w', um', hS2, ⟨hS2.rel, ⟨I'.sz, fun t => ?_⟩, I'.df, ?_, I'.B⟩, .head hstep (hgo.trans (.one stepR_region_end))⟩
    · rw [← hn]
      refine I'.tm t ops.size (Nat.le_refl _) fun j oj hj _ => ?_
      have := (Array.getElem?_eq_some_iff.1 hj).1
      exact ⟨fun _ => this, fun _ => hall j this⟩
    · have := I'.u
      rw [← hst2.2, hn] at this
      exact this
  · have hin := (Array.getElem?_eq_some_iff.1 ho).1
    have hpi : (f (i + 1)).pn = some (i, v, h1') := by rw [hp.eq]
    have hui : (f (i + 1)).u = (f i).u := by rw [hp.eq]
    obtain ⟨hpn, hun⟩ := T.pn_keep (i := i + 1) (j := ops.size) hin (Nat.le_refl _) hpi
    rw [hn] at hpn hun
    refine ⟨fun e => (by rw [hpn] at e; cases e), fun p v2 hp2 e => ?_⟩
    rw [hpn] at e
    simp only [Option.some.injEq, Prod.mk.injEq] at e
    obtain ⟨_, rfl, rfl⟩ := e
    rw [hc0, hcn, h0] at s1
    exact ⟨φ', a', w', um', v', todo, s1, s2, by rw [hun, hui]; exact s3, s4, .head hstep s5⟩
end
end Go.Qe
end
section
set_option linter.unusedVariables false
set_option linter.unusedSimpArgs false
namespace Go.Qe
set_option linter.unusedSectionVars false

theorem loopHome_ext {ro : Option Nat} {c : Nat} {h : Heap} {d l : Nat} {h1 : Heap} {mark : List Deferred} (hh : loopHome ro c h = some (d, h1, l, mark)) : Ext c h l h1 := by
  cases ro with
  | none =>
    simp only [loopHome, Tr.setK_eq, Option.some.injEq, Prod.mk.injEq] at hh
    obtain ⟨_, rfl, rfl, _⟩ := hh
    exact Ext.new _ _ _
  | some l0 =>
    simp only [loopHome] at hh
    split at hh
    · simp only [Option.some.injEq, Prod.mk.injEq] at hh
      obtain ⟨_, rfl, rfl, _⟩ := hh
      exact Ext.refl _ _
    · cases hh

theorem mergeAll_ext {c0 : Nat} {h0 : Heap} {s : DS} (ha : Ext c0 h0 s.c s.h) (hb : ∀ j id ob, (j, id, ob) ∈ s.pend → c0 ≤ id ∧ id < s.c) : Ext c0 h0 s.c (mergeAll s.pend s.h) := ⟨ha.1, fun id e => by
  cases hq : (mergeAll s.pend s.h).get id with
  | none => exact absurd hq e
  | some x =>
    rcases mergeAll_get hq with ⟨j, hj⟩ | e2
    · exact .inr (hb _ _ _ hj)
    · exact ha.2 id (by rw [e2]; simp)⟩

theorem body_ext {E : Env} {H : Handler} {dk : Bool} {ro : Option Nat} {fn nt : Nat} (hm : ∀ {q c h ot c' h'}, H q c h = some (ot, c', h') → Ext c h c' h') : ∀ {n : Nat} {todo : List Item} {tm : Tr Value} {df : List Deferred} {c : Nat} {h : Heap} {u : U} {r : BR},
    body E H dk ro fn nt n todo tm df c h u = some r → Ext c h r.c r.h := by
  intro n
  induction n with
  | zero => intro todo tm df c h u r hh; simp [body] at hh
  | succ n ih =>
    intro todo tm df c h u r hh
    have rf := Ext.refl c h
    unfold body at hh
    split at hh
    all_goals first
      | exact ih hh
      | (split at hh <;> (simp only [Option.some.injEq] at hh; subst hh; exact rf))
      | skip
    -- cond
    · split at hh
      · exact ih hh
      · exact ih hh
      · cases hh
    -- exit
    · split at hh
      · exact ih hh
      · split at hh
        · cases hh
        · simp only [Option.some.injEq] at hh; subst hh; exact rf
    -- goto
    · split at hh
      · exact ih hh
      · split at hh
        · cases hh
        · simp only [Option.some.injEq] at hh; subst hh; exact rf
    -- region
    · split at hh
      · simp only [Option.some.injEq] at hh; subst hh; exact rf
      split at hh
      · rename_i hq
        exact (runOps_ext hm hq).trans (ih hh)
      · rename_i hq
        simp only [Option.some.injEq] at hh; subst hh
        exact runOps_ext hm hq
      · cases hh
    -- drawn region
    · split at hh
      · split at hh
        · rename_i s hq
          obtain ⟨h1, h2, h3⟩ := drawOps_ext hm hq rf (fun _ _ _ e => by cases e) (fun _ _ _ e => by cases e)
          split at hh
          · exact (mergeAll_ext h1 h2).trans (ih hh)
          · rename_i p v hp hpn
            split at hh
            · simp only [Option.some.injEq] at hh; subst hh
              exact h3 _ _ _ hpn
            · cases hh
        · cases hh
      · cases hh
    -- beginRound
    · split at hh
      · cases hh
      · split at hh
        · rename_i hg
          split at hh
          · simp only [Tr.setK_eq] at hh
            exact (Ext.upd (by rw [hg]; simp)).trans (ih hh)
          · cases hh
        · cases hh
    -- rangeFunc
    · split at hh
      · split at hh
        · rename_i d h1 l mark hl
          simp only [fNat_eq, Tr.setK_eq] at hh
          have e1 := fun ob => (loopHome_ext hl).trans (Ext.new l h1 ob)
          split at hh
          · rename_i hq
            have e2 := (e1 _).trans (hm hq)
            split at hh
            · rename_i hg
              split at hh
              · cases hh
              · exact (e2.trans (Ext.upd (by rw [hg]; simp))).trans (ih hh)
            · cases hh
          · rename_i hq
            simp only [Option.some.injEq] at hh; subst hh
            exact (e1 _).trans (hm hq)
          · cases hh
        · cases hh
      · cases hh
    · cases hh
end Go.Qe
end
section
set_option linter.unusedVariables false
set_option linter.unusedSimpArgs false
namespace Go.Qe
set_option linter.unusedSectionVars false

theorem run_enterLoop_inner' {P : Program} {w : World} {l₀ : Nat} {r₀ : Loop} (h : w.heap[l₀]? = some (.loop r₀)) (fn : FuncId) (tmps : Array Value) (ps : Array Tmp) (assign body : Code) :
    (Instr.enterLoop fn tmps ps assign body (some l₀)).run P w =
      .ok (w.heap.size, []) (w.alloc (.loop { state := .ready, pending := none, fn, tmps, params := ps, assign, body, defers := r₀.defers })) := by
  unfold Instr.enterLoop
  simp only [Sem.run_bind, run_getLoop h, run_newObj_alloc, Result.andThen, Sem.run_pure]

/-- How a round's frame stands where it ends. -/
inductive JumpAt : Option Code → List Item → Prop
  | fin : JumpAt none []
  | ret {k : List Item} : JumpAt (some .ret) (.code .ret :: k)
  | exit {id : Nat} {k : List Item} : exitTo id k = none → JumpAt (some (.exit id)) (.code (.exit id) :: k)
  | goto {t : Nat} {k : List Item} : gotoIn t k = none → JumpAt (some (.goto t)) (.code (.goto t) :: k)

def RoR (φ : Phi) (ro : Option Nat) (b : Frame) : Prop := match ro with
  | none => b.roundOf = none
  | some l => ∃ p, φ l = some p ∧ b.roundOf = some p.β
theorem RoR.mono {φ φ' : Phi} (hle : φ.le φ') {ro : Option Nat} {b : Frame} (h : RoR φ ro b) : RoR φ' ro b := by
  cases ro with
  | none => exact h
  | some l => obtain ⟨p, h1, h2⟩ := h; exact ⟨p, hle _ _ h1, h2⟩

/-- The state where a panic has come up: the slots are of no use where nothing is deferred. -/
structure PR (κ : Nat → Value) (P : Program) (B : Bd) (G : Nat) (nt : Nat) (φ : Phi) (tm : Tr Value) (df : List Deferred) (h : Heap) (u : U) (a : Act) (w : World) (um : FrameMode) : Prop where
  rel : Rel κ P B G φ h w
  tm : df = [] ∨ TmR κ φ nt tm a.tmps
  df : DVL κ φ df a.defers
  u : UR κ φ u um
  B : B.n ≤ w.heap.size

def BOk (κ : Nat → Value) (P : Program) (B : Bd) (G : Nat) (nt : Nat) (ro : Option Nat) (b : Frame) (CS : FrameMode → List Frame) (todo : List Item) (c : Nat) (φ : Phi) (h : Heap) (a : Act) (w : World) (um : FrameMode) (r : BR) : Prop :=
  match r.x with
  | .ret => ro = none ∧ ∃ φ' a' w' um' todo', Stp κ P B G c r.c φ φ' h r.h w w' ∧ SR κ P B G nt φ' r.tm r.df r.h r.u a' w' um' ∧
      Steps P (lone (b.atR a todo) (CS um) w) (lone { b.atR a' todo' with mode := .returning } (CS um') w')
  | .pan v => ∃ φ' a' w' um' todo' v', Stp κ P B G c r.c φ φ' h r.h w w' ∧ PR κ P B G nt φ' r.tm r.df r.h r.u a' w' um' ∧ V κ φ' v v' ∧
      Steps P (lone (b.atR a todo) (CS um) w) (lone { b.atR a' todo' with mode := .panicking [{ v := v', recovered := false }] } (CS um') w')
  | .stop td => ∃ φ' a' w' um', Stp κ P B G c r.c φ φ' h r.h w w' ∧ SR κ P B G nt φ' r.tm r.df r.h r.u a' w' um' ∧
      Steps P (lone (b.atR a todo) (CS um) w) (lone (b.atR a' td) (CS um') w')
  | .jump j => ro.isSome = true ∧ ∃ φ' a' w' um' todo', Stp κ P B G c r.c φ φ' h r.h w w' ∧ SR κ P B G nt φ' r.tm r.df r.h r.u a' w' um' ∧ JumpAt j todo' ∧
      Steps P (lone (b.atR a todo) (CS um) w) (lone (b.atR a' todo') (CS um') w')

section
variable {κ : Nat → Value} {P : Program} {B : Bd} {G : Nat} {nt : Nat} {ro : Option Nat} {b : Frame} {CS : FrameMode → List Frame}

theorem BOk.of {todo todo' : List Item} {c c1 : Nat} {φ φ1 : Phi} {h h1 : Heap} {a a1 : Act} {w w1 : World} {um um1 : FrameMode} {r : BR} (hs : Stp κ P B G c c1 φ φ1 h h1 w w1)
    (hst : Steps P (lone (b.atR a todo) (CS um) w) (lone (b.atR a1 todo') (CS um1) w1)) (hr : BOk κ P B G nt ro b CS todo' c1 φ1 h1 a1 w1 um1 r) : BOk κ P B G nt ro b CS todo c φ h a w um r := by
  unfold BOk at hr ⊢
  split at hr
  · obtain ⟨h0, φ', a', w', um', t', s1, s2, s3⟩ := hr
    exact ⟨h0, φ', a', w', um', t', hs.trans s1, s2, hst.trans s3⟩
  · obtain ⟨φ', a', w', um', t', v', s1, s2, s3, s4⟩ := hr
    exact ⟨φ', a', w', um', t', v', hs.trans s1, s2, s3, hst.trans s4⟩
  · obtain ⟨φ', a', w', um', s1, s2, s3⟩ := hr
    exact ⟨φ', a', w', um', hs.trans s1, s2, hst.trans s3⟩
  · obtain ⟨h0, φ', a', w', um', t', s1, s2, s3, s4⟩ := hr
    exact ⟨h0, φ', a', w', um', t', hs.trans s1, s2, s3, hst.trans s4⟩
theorem BOk.step {todo todo' : List Item} {c : Nat} {φ : Phi} {h : Heap} {a : Act} {w : World} {um : FrameMode} {r : BR} (hR : Rel κ P B G φ h w)
    (hst : step P (lone (b.atR a todo) (CS um) w) = .next (lone (b.atR a todo') (CS um) w)) (hr : BOk κ P B G nt ro b CS todo' c φ h a w um r) : BOk κ P B G nt ro b CS todo c φ h a w um r :=
  BOk.of (Stp.refl hR) (.one hst) hr

theorem loop_get {l : Nat} {r0 : CLoop} {φ : Phi} {h : Heap} {w : World} {p : Pl} (hR : Rel κ P B G φ h w) (hg : h.get l = some (.loop r0)) (hp : φ l = some p) :
    ∃ rt q, TmR κ φ r0.nt r0.tm rt ∧ φ r0.defers = some q ∧ w.heap[p.β]? = some (.loop ⟨r0.state, r0.pending, r0.fn, rt, r0.params, r0.assign, r0.body, q.β⟩) ∧ p.o = 0 := by
  obtain ⟨p', x, h1, h2, h3, _⟩ := hR.obj _ _ hg
  rw [hp] at h1; cases h1
  cases h3 with
  | loop a b c => exact ⟨_, _, b, c, h2, a⟩
/-- A loop's record turns. -/
theorem stp_loop {l : Nat} {r0 r1 : CLoop} {φ : Phi} {h : Heap} {w : World} {p q : Pl} {c : Nat} {rt : Array Value} (hR : Rel κ P B G φ h w) (hg : h.get l = some (.loop r0)) (hp : φ l = some p) (ho : p.o = 0)
    (ht : TmR κ φ r1.nt r1.tm rt) (hq : φ r1.defers = some q) : Stp κ P B G c c φ φ h (h.set l (.loop r1)) w (w.putObj p.β (.loop ⟨r1.state, r1.pending, r1.fn, rt, r1.params, r1.assign, r1.body, q.β⟩)) := by
  obtain ⟨p', x, h1, h2, _⟩ := hR.obj _ _ hg
  rw [hp] at h1; cases h1
  have hlt := (Array.getElem?_eq_some_iff.1 h2).1
  exact stp_set hR hg rfl hp (World.putObj_heap_same hlt) (fun k hk => World.putObj_heap_other hk) (by simp [World.putObj]) rfl rfl rfl (.loop ho ht hq)

theorem loopHome_sound {E : Env} {c d l : Nat} {h h1 : Heap} {mark : List Deferred} {φ : Phi} {tm : Tr Value} {df : List Deferred} {u : U} {a : Act} {w : World} {um : FrameMode} {params : Array Tmp} {assign bd : Code}
    (hh : loopHome ro c h = some (d, h1, l, mark)) (hS : SR κ P B G nt φ tm df h u a w um) (hro : RoR φ ro b) (hf : fresh φ c (l + 1)) (hG : G ≤ c) :
    ∃ φ1 w1 p mark', Stp κ P B G c (l + 1) φ φ1 h (h1.set l (.loop { state := .ready, pending := none, fn := b.fn, nt, tm, params, assign, body := bd, defers := d })) w w1 ∧ DVL κ φ1 mark mark' ∧ φ1 l = some p ∧ p.o = 0 ∧ G ≤ l ∧
      (Instr.enterLoop b.fn a.tmps params assign bd b.roundOf).run P w = .ok (p.β, mark') w1 := by
  cases ro with
  | none =>
    simp only [loopHome, Tr.setK_eq, Option.some.injEq, Prod.mk.injEq] at hh
    obtain ⟨rfl, rfl, rfl, rfl⟩ := hh
    have hc := hf c (Nat.le_refl _) (by omega)
    have hle1 := Phi.le_upd (φ := φ) (c := c) ⟨w.heap.size, 0, 0, 0⟩ hc
    have s1 := stp_new (o := .defd (some [])) (x := .deferred (some [])) (r := ⟨w.heap.size, 0, 0, 0⟩) (w' := w.alloc (.deferred (some []))) hS.rel hc hG hS.B rfl rfl rfl rfl rfl (.defd rfl .nil)
    have hc1 : (φ.upd c ⟨w.heap.size, 0, 0, 0⟩) (c + 1) = none := by
      rw [Phi.upd_ne _ _ (by omega)]; exact hf _ (by omega) (by omega)
    have hle2 := Phi.le_upd (φ := φ.upd c ⟨w.heap.size, 0, 0, 0⟩) (c := c + 1) ⟨w.heap.size + 1, 0, 0, 0⟩ hc1
    have hsz : (w.alloc (.deferred (some []))).heap.size = w.heap.size + 1 := Array.size_push _
    have s2 := stp_new (o := .loop { state := .ready, pending := none, fn := b.fn, nt, tm, params, assign, body := bd, defers := c })
      (x := .loop ⟨.ready, none, b.fn, a.tmps, params, assign, bd, w.heap.size⟩) (r := ⟨w.heap.size + 1, 0, 0, 0⟩) (w' := (w.alloc (.deferred (some []))).alloc (.loop ⟨.ready, none, b.fn, a.tmps, params, assign, bd, w.heap.size⟩))
      s1.rel hc1 (by omega) (by have := hS.B; omega) hsz.symm rfl rfl rfl rfl
      (ObjR.loop (p := ⟨w.heap.size, 0, 0, 0⟩) rfl ((hS.tm.mono hle1).mono hle2) (hle2 _ _ (φ.upd_self c _)))
    refine ⟨_, _, ⟨w.heap.size + 1, 0, 0, 0⟩, [{ target := .collected w.heap.size, args := #[] }], s1.trans s2, ?_, Phi.upd_self _ _ _, rfl, by omega, ?_⟩
    · exact .cons (DV.col (hle2 _ _ (φ.upd_self c ⟨w.heap.size, 0, 0, 0⟩))) .nil
    · rw [show b.roundOf = none from hro]
      exact run_enterLoop_outer _ _ _ _ _
  | some l0 =>
    simp only [loopHome] at hh
    split at hh
    · rename_i r0 hg
      simp only [Option.some.injEq, Prod.mk.injEq] at hh
      obtain ⟨rfl, rfl, rfl, rfl⟩ := hh
      obtain ⟨p0, hp0, hb0⟩ := hro
      obtain ⟨rt, q, hT, hq, hw, _⟩ := loop_get hS.rel hg hp0
      have hc := hf c (Nat.le_refl _) (by omega)
      have hle1 := Phi.le_upd (φ := φ) (c := c) ⟨w.heap.size, 0, 0, 0⟩ hc
      have s1 := stp_new (o := .loop { state := .ready, pending := none, fn := b.fn, nt, tm, params, assign, body := bd, defers := r0.defers })
        (x := .loop ⟨.ready, none, b.fn, a.tmps, params, assign, bd, q.β⟩) (r := ⟨w.heap.size, 0, 0, 0⟩) (w' := w.alloc (.loop ⟨.ready, none, b.fn, a.tmps, params, assign, bd, q.β⟩))
        hS.rel hc hG hS.B rfl rfl rfl rfl rfl (ObjR.loop (p := q) rfl (hS.tm.mono hle1) (hle1 _ _ hq))
      refine ⟨_, _, ⟨w.heap.size, 0, 0, 0⟩, [], s1, .nil, Phi.upd_self _ _ _, rfl, hG, ?_⟩
      rw [hb0]
      have := run_enterLoop_inner' (P := P) hw b.fn a.tmps params assign bd
      exact this
    · cases hh
end
end Go.Qe
end
section
set_option linter.unusedVariables false
set_option linter.unusedSimpArgs false
namespace Go.Qe
set_option linter.unusedSectionVars false
section
variable {κ : Nat → Value} {E : Env} {H : Handler} {dk : Bool} {B0 : Bd} {nt : Nat} {ro : Option Nat} {b : Frame} {CS : FrameMode → List Frame}

theorem stepR_rangeFunc_value {P : Program} {a : Act} {k : List Item} {cs : List Frame} {w : World} {g : Operand} {ps : Array Tmp} {assign body : Code} {l : Nat} {mark : List Deferred} {w₁ w₁' w₂ : World} {d : Deferred} {v : Value}
    (he : (Instr.enterLoop b.fn a.tmps ps assign body b.roundOf).run P w = .ok (l, mark) w₁)
    (hres : (resolve a.eval (rangeCall g l) 0).run P w₁ = .ok d w₁') (hinv : (invoke d.target d.args).run P w₁' = .ok (.value v) w₂) :
    step P (lone (b.atR a (.code (.rangeFunc g ps assign body) :: k)) cs w) =
      .next (lone (b.atR { a with defers := mark ++ a.defers } (.endRangeFunc l :: k)) cs w₂) :=
  step_lone_go (by
    have hev := Frame.eval_atR b { a with defers := mark ++ a.defers } (.inRangeFunc l :: k)
    simp only [Frame.atR] at hev
    have hres' : Sem.run P (resolve ({ tmps := a.tmps, defers := mark ++ a.defers } : Act).eval { callee := .value g, args := #[.const (.func (.yield l) #[] #[])], argTypes := #[] } 0) w₁ = .ok d w₁' := hres
    simp [stepG, stepG.exec, Frame.atR, Sem.runT_eq, he, GStep.bare_after, stepG.apply, hev, Sem.run_bind, hres', hinv, Result.andThen, Frame.finish])

theorem body_sound (hH : HOk κ E.P B0 E.G H) (hid : ∀ f, E.idf f = true → ∀ v w, (callFunc f #[v]).run E.P w = .ok (.value v) w) (hcs : CsOk dk b CS) (hmix : E.P.follows .mixedOrders = true) : ∀ {n : Nat} {todo : List Item} {tm : Tr Value} {df : List Deferred} {c : Nat} {h : Heap} {u : U} {r : BR} {φ : Phi} {a : Act} {w : World} {um : FrameMode},
    body E H dk ro b.fn nt n todo tm df c h u = some r → SR κ E.P B0 E.G nt φ tm df h u a w um → E.G ≤ c → fresh φ c r.c → RoR φ ro b → BOk κ E.P B0 E.G nt ro b CS todo c φ h a w um r := by
  intro n
  induction n with
  | zero => intro todo tm df c h u r φ a w um hh; simp [body] at hh
  | succ n ih =>
    intro todo tm df c h u r φ a w um hh hS hG hf hro
    have rf := Stp.refl (c := c) hS.rel
    have hrd : ro.isSome = b.roundOf.isSome := by
      cases ro with
      | none => rw [show b.roundOf = none from hro]
      | some l => obtain ⟨p, _, h2⟩ := hro; rw [h2]; rfl
    unfold body at hh
    split at hh
    -- the end
    · split at hh
      · simp only [Option.some.injEq] at hh; subst hh
        exact ⟨rfl, φ, a, w, um, [], rf, hS, .one (stepR_end hro)⟩
      · simp only [Option.some.injEq] at hh; subst hh
        exact ⟨rfl, φ, a, w, um, [], rf, hS, .fin, Steps.refl _ _⟩
    · split at hh
      · simp only [Option.some.injEq] at hh; subst hh
        exact ⟨rfl, φ, a, w, um, _, rf, hS, .one (stepR_ret hro)⟩
      · simp only [Option.some.injEq] at hh; subst hh
        exact ⟨rfl, φ, a, w, um, _, rf, hS, .ret, Steps.refl _ _⟩
    · exact BOk.step hS.rel stepR_skip (ih hh hS hG hf hro)
    · exact BOk.step hS.rel stepR_label (ih hh hS hG hf hro)
    · exact BOk.step hS.rel stepR_inBlock (ih hh hS hG hf hro)
    · refine BOk.step hS.rel (step_lone_go ?_) (ih hh hS hG hf hro)
      simp [stepG, stepG.exec, Frame.atR]
    · exact BOk.step hS.rel stepR_seq (ih hh hS hG hf hro)
    -- cond
    · split at hh
      · rename_i hok hv
        have := opv_sound hS.tm hS.rel hok
        rw [hv] at this
        have hst := stepR_cond (P := E.P) (b := b) (cs := CS um) (w := w) (k := ‹List Item›) (x := ‹Code›) (y := ‹Code›) this.bool
        exact BOk.step hS.rel (stepR_cond this.bool) (ih hh hS hG hf hro)
      · rename_i hok hv
        have := opv_sound hS.tm hS.rel hok
        rw [hv] at this
        exact BOk.step hS.rel (stepR_cond this.bool) (ih hh hS hG hf hro)
      · cases hh
    · exact BOk.step hS.rel stepR_block (ih hh hS hG hf hro)
    · exact BOk.step hS.rel stepR_loop (ih hh hS hG hf hro)
    · exact BOk.step hS.rel stepR_inLoop (ih hh hS hG hf hro)
    · refine BOk.step hS.rel (step_lone_go ?_) (ih hh hS hG hf hro)
      simp [stepG, stepG.exec, Frame.atR]
    -- exit
    · split at hh
      · rename_i hx
        exact BOk.step hS.rel (stepR_exit hx) (ih hh hS hG hf hro)
      · rename_i hx
        split at hh
        · cases hh
        · simp only [Option.some.injEq] at hh; subst hh
          exact ⟨rfl, φ, a, w, um, _, rf, hS, .exit hx, Steps.refl _ _⟩
    -- goto
    · split at hh
      · rename_i hx
        exact BOk.step hS.rel (stepR_goto hx) (ih hh hS hG hf hro)
      · rename_i hx
        split at hh
        · cases hh
        · simp only [Option.some.injEq] at hh; subst hh
          exact ⟨rfl, φ, a, w, um, _, rf, hS, .goto hx, Steps.refl _ _⟩
    -- a region in the order of the text
    · rename_i id ops k
      split at hh
      · simp only [Option.some.injEq] at hh; subst hh
        exact ⟨φ, a, w, um, rf, hS, Steps.refl _ _⟩
      split at hh
      · rename_i tm1 df1 c1 h1 u1 hq
        have hge := (body_ext hH.ext hh).1
        have hr := runOps_sound (b := b) (CS := CS) (k := k) (ops := ops) (i := 0) hH hid hcs hrd (by simp) hq hS hG (hf.left hge)
        obtain ⟨φ1, a1, w1, um1, s1, s2, s3⟩ := hr
        have hle := s1.le (hf.left hge)
        refine BOk.of s1 (.head stepR_region ?_) (ih hh s2 (Nat.le_trans hG s1.cc) (hf.right s1) (hro.mono hle))
        rw [List.range_eq_range']
        exact Steps.trans s3 (.one stepR_region_end)
      · rename_i v1 tm1 df1 c1 h1 u1 hq
        simp only [Option.some.injEq] at hh; subst hh
        have hr := runOps_sound (b := b) (CS := CS) (k := k) (ops := ops) (i := 0) hH hid hcs hrd (by simp) hq hS hG hf
        obtain ⟨φ1, a1, w1, um1, v', td, s1, s2, s3, s4⟩ := hr
        refine ⟨φ1, a1, w1, um1, td, v', s1, ⟨s2.rel, .inr s2.tm, s2.df, s2.u, s2.B⟩, s3, .head stepR_region ?_⟩
        rw [List.range_eq_range']
        exact s4
      · cases hh
    -- a region that draws
    · rename_i id ops k
      split at hh
      · rename_i ht
        split at hh
        · rename_i s hq
          split at hh
          · rename_i hpn
            have hge := (body_ext hH.ext hh).1
            obtain ⟨φ1, a1, w1, um1, s1, s2, s3⟩ := (drawOps_sound (b := b) (CS := CS) (k := k) (id := id) hH hid hcs hmix ht hq hS hG (hf.left hge)).1 hpn
            have hle := s1.le (hf.left hge)
            exact BOk.of s1 s3 (ih hh s2 (Nat.le_trans hG s1.cc) (hf.right s1) (hro.mono hle))
          · rename_i p v hp hpn
            split at hh
            · simp only [Option.some.injEq] at hh; subst hh
              obtain ⟨φ1, a1, w1, um1, v', td, s1, s2, s3, s4, s5⟩ := (drawOps_sound (b := b) (CS := CS) (k := k) (id := id) hH hid hcs hmix ht hq hS hG hf).2 _ _ _ hpn
              exact ⟨φ1, a1, w1, um1, td, v', s1, ⟨s1.rel, .inl rfl, s4, s3, Nat.le_trans hS.B s1.size⟩, s2, s5⟩
            · cases hh
        · cases hh
      · cases hh
    -- beginRound
    · split at hh
      · cases hh
      · rename_i l
        split at hh
        · rename_i r0 hg
          split at hh
          · rename_i hst
            simp only [Tr.setK_eq] at hh
            obtain ⟨p, hp, hb⟩ := hro
            obtain ⟨rt, q, hT, hq, hw, ho⟩ := loop_get hS.rel hg hp
            have hrun := run_beginRound (P := E.P) hw hst
            have s1 := stp_loop (c := c) (r1 := { r0 with state := .busy }) hS.rel hg hp ho hT hq
            exact BOk.of s1 (.one (stepR_beginRound hb hrun)) (ih hh ⟨s1.rel, hS.tm, hS.df, hS.u, Nat.le_trans hS.B s1.size⟩ hG hf ⟨p, hp, hb⟩)
          · cases hh
        · cases hh
    -- rangeFunc
    · rename_i f params assign bd k
      split at hh
      · rename_i g first cap hok hv
        obtain ⟨first⟩ := first
        obtain ⟨cap⟩ := cap
        have hfv := opv_sound hS.tm hS.rel hok
        rw [hv] at hfv
        obtain ⟨fs', cs', hr, hfs, hcp⟩ := hfv.fnI rfl
        split at hh
        · rename_i d h1 l mark hl
          simp only [fNat_eq, Tr.setK_eq] at hh
          have hel := (loopHome_ext hl).1
          -- what the call makes of it, either way
          have call : ∀ {ot c2 h2}, H (.fn g (first ++ [Value.func (.yield l) #[] #[]] ++ cap)) (l + 1) (h1.set l (.loop { state := .ready, pending := none, fn := b.fn, nt, tm, params, assign, body := bd, defers := d })) = some (ot, c2, h2) → c2 ≤ r.c →
              ∃ φ2 w2 p mark', Stp κ E.P B0 E.G c c2 φ φ2 h h2 w w2 ∧ DVL κ φ2 mark mark' ∧ φ2 l = some p ∧ p.o = 0 ∧ E.G ≤ l ∧ match ot with
                | .ret _ _ => Steps E.P (lone (b.atR a (.code (.rangeFunc f params assign bd) :: k)) (CS um) w) (lone (b.atR { a with defers := mark' ++ a.defers } (.endRangeFunc p.β :: k)) (CS um) w2)
                | .pan v => ∃ v', V κ φ2 v v' ∧ Steps E.P (lone (b.atR a (.code (.rangeFunc f params assign bd) :: k)) (CS um) w) (lone { b.atR { a with defers := mark' ++ a.defers } (.inRangeFunc p.β :: k) with mode := .panicking [{ v := v', recovered := false }] } (CS um) w2) := by
            intro ot c2 h2 hq hc2
            have hge2 := (hH.ext hq).1
            obtain ⟨φ1, w1, p, mark', s1, hmk, hp, ho, hGl, hent⟩ := loopHome_sound (b := b) (params := params) (assign := assign) (bd := bd) (E := E) hl hS hro (hf.left (by omega)) hG
            have hf2 : fresh φ1 (l + 1) c2 := (hf.left hc2).right s1
            have hle1 := s1.le ((hf.left hc2).left hge2)
            have hV : VL κ φ1 (first ++ [Value.func (.yield l) #[] #[]] ++ cap) (fs' ++ [Value.func (.yield p.β) #[] #[]] ++ cs') :=
              ((hfs.mono hle1).append (.cons (V.yld hp) .nil)).append (hcp.mono hle1)
            have hran := hH.fn hq hf2 s1.rel (by omega) (Nat.le_trans hS.B s1.size) hV
            have hres : (resolve a.eval (rangeCall f p.β) 0).run E.P w1 = .ok ⟨.fn (.func g) ⟨cs'⟩, ⟨fs'⟩ ++ #[Value.func (.yield p.β) #[] #[]]⟩ w1 := by
              unfold resolve
              simp only [rangeCall, hr, Deferred.ofValue, Sem.run_bind, Sem.run_pure, Result.andThen_ok]
              have e : (#[Operand.const (Value.func (.yield p.β) #[] #[])] : Array Operand).map a.eval = #[Value.func (.yield p.β) #[] #[]] := by simp [Act.eval]
              rw [e]
            have hinv : (invoke (.fn (.func g) ⟨cs'⟩) (⟨fs'⟩ ++ #[Value.func (.yield p.β) #[] #[]])).run E.P w1 = (callFunc g ⟨fs' ++ [Value.func (.yield p.β) #[] #[]] ++ cs'⟩).run E.P w1 := by
              show (callFunc g _).run E.P w1 = _
              congr 2
              apply Array.ext'; simp
            rcases hran with ⟨v', w2, hr2, φ2, hs, hot⟩ | ⟨hr2, hc⟩
            · have hle2 := hs.le hf2
              cases ot with
              | pan v => exact hot.elim
              | ret v uu => exact ⟨φ2, w2, p, mark', s1.trans hs, hmk.mono hle2, hle2 _ _ hp, ho, hGl, .one (stepR_rangeFunc_value hent hres (hinv.trans hr2))⟩
            · obtain ⟨e, w2, fr, ⟨φ2, hs, hot⟩, hsteps, hfn, hlv⟩ := hc (b.atR { a with defers := mark' ++ a.defers } (.inRangeFunc p.β :: k) :: CS um)
              have hle2 := hs.le hf2
              have st1 := stepR_rangeFunc (cs := CS um) (k := k) hent hres (hinv.trans hr2)
              cases ot with
              | ret v uu =>
                cases e with
                | returned v' =>
                  have st2 := step_leave_returned (c := b.atR { a with defers := mark' ++ a.defers } (.inRangeFunc p.β :: k)) (cs := CS um) hlv
                  rw [finish_atR_inRangeFunc] at st2
                  exact ⟨φ2, w2, p, mark', s1.trans hs, hmk.mono hle2, hle2 _ _ hp, ho, hGl, .head st1 (Steps.trans hsteps (.one st2))⟩
                | panicked ch => exact hot.elim
                | outgrown => exact hot.elim
              | pan v =>
                cases e with
                | returned v' => exact hot.elim
                | panicked ch =>
                  obtain ⟨v', rfl, hVv⟩ := hot
                  have st2 := step_leave_panicked (c := b.atR { a with defers := mark' ++ a.defers } (.inRangeFunc p.β :: k)) (cs := CS um) hlv
                  rw [Frame.raise_atR] at st2
                  exact ⟨φ2, w2, p, mark', s1.trans hs, hmk.mono hle2, hle2 _ _ hp, ho, hGl, v', hVv, .head st1 (Steps.trans hsteps (.one st2))⟩
                | outgrown => exact hot.elim
          split at hh
          · rename_i v0 u0 c2 h2 hq
            split at hh
            · rename_i r2 hg2
              split at hh
              · cases hh
              · rename_i hbusy
                have hge3 := (body_ext hH.ext hh).1
                obtain ⟨φ2, w2, p, mark', s2, hmk, hp, ho, hGl, hst⟩ := call hq hge3
                have hle := s2.le (hf.left hge3)
                obtain ⟨rt, q, hT, hq2, hw, _⟩ := loop_get s2.rel hg2 hp
                have hrun := run_endLoop (P := E.P) hw (fun e => hbusy e)
                have s3 := stp_loop (c := c2) (r1 := { r2 with state := .exhausted }) s2.rel hg2 hp ho hT hq2
                have h1' := s2.cc
                refine BOk.of (s2.trans s3) (Steps.trans hst (.one (stepR_endRangeFunc hrun))) (ih hh ⟨s3.rel, hS.tm.mono hle, hmk.append (hS.df.mono hle), hS.u.mono hle, Nat.le_trans (Nat.le_trans hS.B s2.size) s3.size⟩ (by omega) ((hf.right s2).right s3) (hro.mono hle))
            · cases hh
          · rename_i v0 c2 h2 hq
            simp only [Option.some.injEq] at hh; subst hh
            obtain ⟨φ2, w2, p, mark', s2, hmk, hp, ho, hGl, v', hV, hst⟩ := call hq (Nat.le_refl _)
            have hle := s2.le hf
            exact ⟨φ2, { a with defers := mark' ++ a.defers }, w2, um, _, v', s2, ⟨s2.rel, .inr (hS.tm.mono hle), hmk.append (hS.df.mono hle), hS.u.mono hle, Nat.le_trans hS.B s2.size⟩, hV, hst⟩
          · cases hh
        · cases hh
      · cases hh
    · cases hh
end
end Go.Qe
end
section
set_option linter.unusedVariables false
set_option linter.unusedSimpArgs false
namespace Go.Qe
set_option linter.unusedSectionVars false

theorem unw_ext {H : Handler} (hm : ∀ {q c h ot c' h'}, H q c h = some (ot, c', h') → Ext c h c' h') : ∀ {n : Nat} {ds : List Deferred} {u : U} {c : Nat} {h : Heap} {u' : U} {c' : Nat} {h' : Heap}, unw H n ds u c h = some (u', c', h') → Ext c h c' h' := by
  intro n
  induction n with
  | zero => intro ds u c h u' c' h' hh; simp [unw] at hh
  | succ n ih =>
    intro ds u c h u' c' h' hh
    cases ds with
    | nil => simp only [unw, Option.some.injEq, Prod.mk.injEq] at hh; obtain ⟨_, rfl, rfl⟩ := hh; exact Ext.refl _ _
    | cons d ds =>
      simp only [unw] at hh
      split at hh
      · split at hh
        · rename_i hg
          simp only [Tr.setK_eq] at hh
          exact (Ext.upd (by rw [hg]; simp)).trans (ih hh)
        · cases hh
      · split at hh
        · rename_i hq
          exact (hm hq).trans (ih hh)
        · cases hh
      · cases hh

theorem UR.ne_run {κ : Nat → Value} {φ : Phi} {u : U} {um : FrameMode} (h : UR κ φ u um) : um ≠ .run := by cases h <;> simp
theorem UR.settle {κ : Nat → Value} {φ : Phi} {u : U} {um : FrameMode} (h : UR κ φ u um) : UR κ φ (settleU u) (settle um) := by
  cases h with
  | ret => exact .ret
  | @pan v v' r hV => cases r with
    | true => exact .ret
    | false => exact .pan hV

section
variable {κ : Nat → Value} {P : Program} {B : Bd} {G : Nat} {H : Handler}
theorem unw_sound (hH : HOk κ P B G H) : ∀ {n : Nat} {ds : List Deferred} {u : U} {c : Nat} {h : Heap} {u' : U} {c' : Nat} {h' : Heap} {φ : Phi} {w : World} {um : FrameMode} {fr : Frame} {cs : List Frame},
    unw H n ds u c h = some (u', c', h') → Rel κ P B G φ h w → UR κ φ u um → DVL κ φ ds fr.defers → fr.mode = um → G ≤ c → B.n ≤ w.heap.size → fresh φ c c' →
    ∃ φ' um' w', Stp κ P B G c c' φ φ' h h' w w' ∧ UR κ φ' u' um' ∧ Steps P (lone fr cs w) (lone { fr with mode := um', defers := [] } cs w') := by
  intro n
  induction n with
  | zero => intro ds u c h u' c' h' φ w um fr cs hh; simp [unw] at hh
  | succ n ih =>
    intro ds u c h u' c' h' φ w um fr cs hh hR hu hd hmode hG hB hf
    cases ds with
    | nil =>
      simp only [unw, Option.some.injEq, Prod.mk.injEq] at hh
      obtain ⟨rfl, rfl, rfl⟩ := hh
      refine ⟨φ, um, w, Stp.refl hR, hu, ?_⟩
      have hd0 : fr.defers = [] := by
        generalize fr.defers = l at hd
        cases hd; rfl
      have : { fr with mode := um, defers := [] } = fr := by
        rw [← hmode, ← hd0]
      rw [this]
      exact Steps.refl _ _
    | cons d ds =>
      obtain ⟨d', ds', hde, hdd, hds⟩ : ∃ d' ds', fr.defers = d' :: ds' ∧ DV κ φ d d' ∧ DVL κ φ ds ds' := by
        generalize fr.defers = l at hd
        cases hd with
        | cons a b => exact ⟨_, _, rfl, a, b⟩
      have hnr : fr.mode ≠ .run := by rw [hmode]; exact hu.ne_run
      simp only [unw] at hh
      cases hdd with
      | @fn f cap cap' args args' hny hc ha =>
        simp only at hh
        split at hh
        · rename_i e; cases e
        · rename_i g cap0 e
          cases e
          split at hh
          · rename_i v0 u1 c1 h1 hq
            have hge := (unw_ext hH.ext hh).1
            obtain ⟨hrun, hcall⟩ := hH.dfd hq (hf.left hge) hR hG hB (ha.append hc) hu
            have hi : (invoke (Target.fn (.func g) ⟨cap'⟩) ⟨args'⟩).run P w = .ok (.enter g ⟨args' ++ cap'⟩) w := by
              have : (callFunc g ((⟨args'⟩ : Array Value) ++ ⟨cap'⟩)).run P w = .ok (.enter g ⟨args' ++ cap'⟩) w := by
                rw [show ((⟨args'⟩ : Array Value) ++ ⟨cap'⟩) = ⟨args' ++ cap'⟩ by apply Array.ext'; simp]
                exact hrun
              exact this
            have st1 := step_defer (cs := cs) hnr hde rfl hi
            obtain ⟨e, um1, w1, fr1, ⟨φ1, hs, v, u2, v', e1, e2, hu2⟩, hcomes, hk, hgo⟩ := hcall { fr with defers := ds' } cs hmode
            subst e2
            cases e1
            have st2 := step_going_returned (c := { fr with defers := ds', mode := um1 }) (cs := cs) hk hgo
            have hle := hs.le (hf.left hge)
            obtain ⟨φ2, um2, w2, s2, hu3, st3⟩ := ih (fr := { fr with defers := ds', mode := Go.settle um1 }) (cs := cs) hh hs.rel hu2.settle (hds.mono hle) rfl (Nat.le_trans hG hs.cc) (Nat.le_trans hB hs.size) (hf.right hs)
            exact ⟨φ2, um2, w2, hs.trans s2, hu3, .head st1 (Steps.trans hcomes (.head st2 st3))⟩
          · cases hh
        · cases hh
      | @col bb r hr =>
        simp only at hh
        split at hh
        · rename_i l hg
          simp only [Tr.setK_eq] at hh
          obtain ⟨r0, x0, hr0, hx0, hob, _⟩ := hR.obj bb _ hg
          rw [hr] at hr0; cases hr0
          cases hob with
          | @defd _ l' _ ho hl =>
            have hrun := run_takeDeferred (P := P) hx0
            have hlt := (Array.getElem?_eq_some_iff.1 hx0).1
            have s1 := stp_set (c := c) (o' := .defd none) hR hg rfl hr (World.putObj_heap_same hlt) (fun k hk => World.putObj_heap_other hk) (by simp [World.putObj]) rfl rfl rfl (.defd0 ho)
            have st1 := step_collected (P := P) (cs := cs) hnr hde rfl hrun
            obtain ⟨φ2, um2, w2, s2, hu3, st3⟩ := ih (fr := { fr with defers := l' ++ ds' }) (cs := cs) hh s1.rel hu (hl.append hds) hmode hG (Nat.le_trans hB s1.size) hf
            exact ⟨φ2, um2, w2, s1.trans s2, hu3, .head st1 st3⟩
        · cases hh
end
end Go.Qe
end
section
set_option linter.unusedVariables false
set_option linter.unusedSimpArgs false
namespace Go.Qe
set_option linter.unusedSectionVars false

theorem ofArgs_get : ∀ (l : List Value) (i : Nat) (t : Tr Value) (j : Nat), (ofArgs l i t).get j = if i ≤ j ∧ j < i + l.length then l[j - i]? else t.get j := by
  intro l
  induction l with
  | nil => intro i t j; simp [ofArgs]; omega
  | cons v l ih =>
    intro i t j
    simp only [ofArgs, ih, Tr.get_set, List.length_cons]
    by_cases h1 : i + 1 ≤ j ∧ j < i + 1 + l.length
    · rw [if_pos h1, if_pos (by omega), show j - i = (j - (i + 1)) + 1 by omega]; rfl
    · rw [if_neg h1]
      by_cases h2 : i = j
      · subst h2; simp
      · rw [if_neg h2, if_neg (by omega)]

theorem enter_tm {κ : Nat → Value} {φ : Phi} {args args' : List Value} {n : Nat} (hV : VL κ φ args args') : TmR κ φ (max n args.length) (ofArgs args 0 .e) ((⟨args'⟩ : Array Value) ++ Array.replicate (n - (⟨args'⟩ : Array Value).size) undef) := by
  have hl := hV.length
  refine ⟨by simp; omega, fun i => ?_⟩
  simp only [opv, ofArgs_get, Tr.get_e]
  rw [Array.getD_eq_getD_getElem?, Array.getElem?_append]
  by_cases hi : i < args.length
  · rw [if_pos (show 0 ≤ i ∧ i < 0 + args.length from ⟨Nat.zero_le _, by rw [Nat.zero_add]; exact hi⟩), if_pos (show i < (⟨args'⟩ : Array Value).size by show i < args'.length; rw [hl]; exact hi)]
    have h1 : args[i - 0]? = some args[i] := by simp [hi]
    rw [h1]
    obtain ⟨v', h2, h3⟩ := hV.get (i := i) (v := args[i]) (by simp [hi])
    simp only [List.getElem?_toArray, h2, Option.getD_some]
    exact h3
  · rw [if_neg (show ¬ (0 ≤ i ∧ i < 0 + args.length) from fun e => hi (by rw [Nat.zero_add] at e; exact e.2)), if_neg (show ¬ i < (⟨args'⟩ : Array Value).size by show ¬ i < args'.length; rw [hl]; exact hi)]
    have : ∀ k m : Nat, ((Array.replicate m undef)[k]?).getD undef = undef := by
      intro k m
      rw [Array.getElem?_replicate]; split <;> rfl
    rw [this]
    exact .af rfl

theorem resOne_V {κ : Nat → Value} {φ : Phi} {l l' : List Value} (h : VL κ φ l l') : V κ φ (resOne l) (if h : (⟨l'⟩ : Array Value).size = 1 then (⟨l'⟩ : Array Value)[0] else .tuple ⟨l'⟩) := by
  cases h with
  | nil => exact .tuple .nil
  | cons a b =>
    cases b with
    | nil => exact a
    | cons c d =>
      simp only [resOne]
      rw [dif_neg (by simp)]
      exact .tuple (.cons a (.cons c d))

section
variable {κ : Nat → Value} {P : Program} {B : Bd} {G : Nat} {φ : Phi} {nt : Nat}
theorem resV_sound {tm : Tr Value} {h : Heap} {tmps : Array Value} {w : World} (hT : TmR κ φ nt tm tmps) (hR : Rel κ P B G φ h w) : ∀ {l : List ResultVar} {r : List Value}, resV P tm h l = some r →
    ∃ r', (l.mapM (m := Sem) fun
      | .tmp t => pure (tmps.getD t undef)
      | .cell a t => do loadVar t (← asAddr (tmps.getD a undef))).run P w = .ok r' w ∧ VL κ φ r r' := by
  intro l
  induction l with
  | nil => intro r hh; simp only [resV, Option.some.injEq] at hh; subst hh; exact ⟨[], by simp, .nil⟩
  | cons x l ih =>
    intro r hh
    cases x with
    | tmp t =>
      simp only [resV] at hh
      split at hh
      · rename_i r1 hq
        simp only [Option.some.injEq] at hh; subst hh
        obtain ⟨r', h1, h2⟩ := ih hq
        exact ⟨_ :: r', by simp only [List.mapM_cons, Sem.run_bind, Sem.run_pure, Result.andThen_ok, h1], .cons (hT.val t) h2⟩
      · cases hh
    | cell a t =>
      simp only [resV] at hh
      split at hh
      · rename_i b off e
        split at hh
        · rename_i m el cs hg
          split at hh
          · rename_i v r1 hv hq
            simp only [Option.some.injEq] at hh; subst hh
            obtain ⟨r', h1, h2⟩ := ih hq
            have hva := hT.val a
            rw [e] at hva
            obtain ⟨_, p, hp, hr⟩ := hva.ptrI
            obtain ⟨p', x, hp', hw, hx, _⟩ := hR.obj b _ hg
            rw [hp] at hp'; cases hp'
            cases hx with
            | cells q1 q2 q3 q4 q5 q6 =>
              obtain ⟨u', hl, hV⟩ := read_loadVar hv hw q4
              refine ⟨u' :: r', ?_, .cons hV h2⟩
              have ha : (asAddr (tmps.getD a undef)).run P w = .ok ⟨p.β, p.o + off, none⟩ w := by rw [hr]; rfl
              simp only [List.mapM_cons, Sem.run_bind, Sem.run_pure, Result.andThen_ok, h1, ha, hl]
          · cases hh
        · cases hh
      · cases hh
theorem results_sound {tm : Tr Value} {h : Heap} {tmps : Array Value} {w : World} {fn : Func} {r : List Value} (hT : TmR κ φ nt tm tmps) (hR : Rel κ P B G φ h w) (hr : resV P tm h fn.results.toList = some r) :
    ∃ v', (results fn tmps).run P w = .ok v' w ∧ V κ φ (resOne r) v' := by
  obtain ⟨r', h1, h2⟩ := resV_sound hT hR hr
  refine ⟨_, ?_, resOne_V h2⟩
  unfold results
  rw [Array.mapM_eq_mapM_toList]
  simp only [Sem.run_bind, map_eq_pure_bind]
  erw [h1]
  simp
end
end Go.Qe
end
section
set_option linter.unusedVariables false
set_option linter.unusedSimpArgs false
namespace Go.Qe
def delA : List (Nat × CObj) → Heap → Heap
  | [], h => h
  | (id, _) :: l, h => delA l (h.del id)
def putA : List (Nat × CObj) → Heap → Heap
  | [], h => h
  | (id, o) :: l, h => putA l (h.set id o)
def ofP (l : List (Nat × CObj)) : Heap := putA l .e
theorem delAll_eq {β : Type} : ∀ (l : List (Nat × CObj)) (h : Heap) (k : Heap → β), delAll l h k = k (delA l h)
  | [], _, _ => rfl
  | (id, _) :: l, h, k => by simp only [delAll, Tr.delK_eq, delA]; exact delAll_eq l _ k
theorem putAll_eq {β : Type} : ∀ (l : List (Nat × CObj)) (h : Heap) (k : Heap → β), putAll l h k = k (putA l h)
  | [], _, _ => rfl
  | (id, o) :: l, h, k => by simp only [putAll, Tr.setK_eq, putA]; exact putAll_eq l _ k
theorem delA_get : ∀ (l : List (Nat × CObj)) (h : Heap) (id : Nat), (delA l h).get id = if id ∈ l.map Prod.fst then none else h.get id
  | [], _, _ => by simp [delA]
  | (i, _) :: l, h, id => by
    simp only [delA, delA_get l, Tr.get_del, List.map_cons, List.mem_cons]
    by_cases h1 : id ∈ l.map Prod.fst
    · simp [h1]
    · by_cases h2 : i = id
      · subst h2; simp
      · have : ¬ id = i := fun e => h2 e.symm
        simp [h1, h2, this]
theorem putA_get : ∀ (l : List (Nat × CObj)) (h : Heap) (id : Nat), (putA l h).get id = match (ofP l).get id with
    | some o => some o
    | none => h.get id
  | [], _, _ => by simp [ofP, putA]
  | (i, o) :: l, h, id => by
    have e1 := putA_get l (h.set i o) id
    have e2 := putA_get l ((Tr.e : Heap).set i o) id
    simp only [ofP, putA] at e1 e2 ⊢
    rw [e1, e2]
    cases (putA l Tr.e).get id with
    | some x => rfl
    | none =>
      simp only [Tr.get_set]
      by_cases h2 : i = id
      · simp [h2]
      · simp [h2]
theorem ofP_mem : ∀ {l : List (Nat × CObj)} {id : Nat} {o : CObj}, (ofP l).get id = some o → (id, o) ∈ l
  | [], _, _, h => by simp [ofP, putA] at h
  | (i, x) :: l, id, o, h => by
    have e := putA_get l ((Tr.e : Heap).set i x) id
    simp only [ofP, putA] at h e
    rw [e] at h
    cases hq : (putA l Tr.e).get id with
    | some y =>
      rw [hq] at h
      simp only [Option.some.injEq] at h
      subst h
      exact List.mem_cons_of_mem _ (ofP_mem (l := l) hq)
    | none =>
      rw [hq] at h
      simp only [Tr.get_set] at h
      split at h
      · rename_i e; subst e; simp only [Option.some.injEq] at h; subst h; exact List.mem_cons_self
      · simp at h
theorem ofP_ids : ∀ {l : List (Nat × CObj)} {id : Nat}, id ∈ l.map Prod.fst → (ofP l).get id ≠ none
  | [], _, h => by simp at h
  | (i, x) :: l, id, h => by
    have e := putA_get l ((Tr.e : Heap).set i x) id
    simp only [ofP, putA] at e ⊢
    rw [e]
    cases hq : (putA l Tr.e).get id with
    | some y => simp
    | none =>
      simp only [Tr.get_set]
      by_cases h2 : i = id
      · simp [h2]
      · have h3 : id ∈ l.map Prod.fst := by
          simp only [List.map_cons, List.mem_cons] at h
          rcases h with h | h
          · exact absurd h.symm h2
          · exact h
        exact absurd hq (ofP_ids (l := l) h3)
theorem memoL_spec : ∀ {l : List Memo} {args : List Value} {c : Nat} {h : Heap} {r : Ot × Nat × Heap}, memoL l args c h = some r →
    ∃ m ∈ l, m.c = c ∧ m.args = args ∧ (∀ id o, (id, o) ∈ m.pre → h.get id = some o) ∧ r = (m.ot, m.c', putA m.post (delA m.pre h))
  | [], _, _, _, _, h => by simp [memoL] at h
  | m :: l, args, c, h, r, hh => by
    simp only [memoL] at hh
    split at hh
    · obtain ⟨m', h1, h2⟩ := memoL_spec hh
      exact ⟨m', List.mem_cons_of_mem _ h1, h2⟩
    · rename_i hc
      split at hh
      · obtain ⟨m', h1, h2⟩ := memoL_spec hh
        exact ⟨m', List.mem_cons_of_mem _ h1, h2⟩
      · rename_i hq
        simp only [delAll_eq, putAll_eq, Option.some.injEq] at hh
        simp only [Bool.and_eq_true] at hq
        refine ⟨m, List.mem_cons_self, Nat.eq_of_beq_eq_true hc, vbeqL_eq _ _ hq.1, fun id o hm => ?_, hh.symm⟩
        exact obeq_eq (List.all_eq_true.1 hq.2 (id, o) hm)

/-- What a call that has been run before owes. -/
structure MemoOk (κ : Nat → Value) (P : Program) (B : Bd) (G : Nat) (f : Nat) (m : Memo) : Prop where
  ext : Ext m.c (ofP m.pre) m.c' (ofP m.post)
  ran : ∀ {φ : Phi} {w : World} {args' : List Value}, fresh φ m.c m.c' → Rel κ P B G φ (ofP m.pre) w → G ≤ m.c → B.n ≤ w.heap.size → VL κ φ m.args args' →
    Ran P f ⟨args'⟩ w fun e w' => ∃ φ', Stp κ P B G m.c m.c' φ φ' (ofP m.pre) (ofP m.post) w w' ∧ OtR κ φ' m.ot e

theorem Ran.mono {P : Program} {f : FuncId} {args : Array Value} {w : World} {R R' : Ending → World → Prop} (h : Ran P f args w R) (k : ∀ e w', R e w' → R' e w') : Ran P f args w R' := by
  rcases h with ⟨v', w', h1, h2⟩ | ⟨h1, h2⟩
  · exact .inl ⟨v', w', h1, k _ _ h2⟩
  · refine .inr ⟨h1, fun cs => ?_⟩
    obtain ⟨e, w', fr, he, hc⟩ := h2 cs
    exact ⟨e, w', fr, k _ _ he, hc⟩

/-- What is left of the heap may be taken for less. -/
theorem Stp.less {κ : Nat → Value} {P : Program} {B : Bd} {G : Nat} {c c' : Nat} {φ φ' : Phi} {h h' h'' : Heap} {w w' : World} (k : Stp κ P B G c c' φ φ' h h' w w') (hs : Qe.sub h'' h') : Stp κ P B G c c' φ φ' h h'' w w' :=
  { cc := k.cc, ext := k.ext, new := fun id e => k.new id (by
      cases hq : h''.get id with
      | none => exact absurd hq e
      | some o => rw [hs _ _ hq]; simp), rel := k.rel.sub hs, size := k.size, frame := k.frame, own := fun id o r e f => k.own id o r (hs _ _ e) f, tape := k.tape, os := k.os, output := k.output }

theorem memo_ext {κ : Nat → Value} {P : Program} {B : Bd} {G : Nat} {f : Nat} {m : Memo} (hm : MemoOk κ P B G f m) {h : Heap} (hp : ∀ id o, (id, o) ∈ m.pre → h.get id = some o) : Ext m.c h m.c' (putA m.post (delA m.pre h)) := by
  refine ⟨hm.ext.1, fun id e => ?_⟩
  rw [putA_get] at e
  cases hq : (ofP m.post).get id with
  | some o =>
    rcases hm.ext.2 id (by rw [hq]; simp) with h1 | h1
    · cases hq2 : (ofP m.pre).get id with
      | none => exact absurd hq2 h1
      | some x => exact .inl (by rw [hp _ _ (ofP_mem hq2)]; simp)
    · exact .inr h1
  | none =>
    rw [hq] at e
    simp only [delA_get] at e
    split at e
    · exact absurd rfl e
    · exact .inl e
theorem memo_ran {κ : Nat → Value} {P : Program} {B : Bd} {G : Nat} {f : Nat} {m : Memo} (hm : MemoOk κ P B G f m) {h : Heap} (hp : ∀ id o, (id, o) ∈ m.pre → h.get id = some o) {φ : Phi} {w : World} {args' : List Value}
    (hf : fresh φ m.c m.c') (hR : Rel κ P B G φ h w) (hG : G ≤ m.c) (hB : B.n ≤ w.heap.size) (hV : VL κ φ m.args args') :
    Ran P f ⟨args'⟩ w fun e w' => ∃ φ', Stp κ P B G m.c m.c' φ φ' h (putA m.post (delA m.pre h)) w w' ∧ OtR κ φ' m.ot e := by
  have hs : Qe.sub (ofP m.pre) h := fun id o e => hp _ _ (ofP_mem e)
  refine (hm.ran hf (hR.sub hs) hG hB hV).mono ?_
  rintro e w' ⟨φ', k, ho⟩
  refine ⟨φ', Stp.framed hR hs k hf fun id o e => ?_, ho⟩
  rw [putA_get] at e
  cases hq : (ofP m.post).get id with
  | some x => rw [hq] at e; exact .inl e
  | none =>
    rw [hq] at e
    simp only [delA_get] at e
    split at e
    · cases e
    · rename_i hn
      refine .inr ⟨e, ?_⟩
      cases hq2 : (ofP m.pre).get id with
      | none => rfl
      | some x => exact absurd (List.mem_map_of_mem (f := Prod.fst) (ofP_mem hq2)) hn
end Go.Qe
end
section
set_option linter.unusedVariables false
set_option linter.unusedSimpArgs false
namespace Go.Qe
set_option linter.unusedSectionVars false

/-- A run that leaves what was there as it was. -/
structure Quiet (w w' : World) : Prop where
  size : w.heap.size ≤ w'.heap.size
  heap : ∀ β, β < w.heap.size → w'.heap[β]? = w.heap[β]?
  tape : w'.tape = w.tape
  os : w'.os = w.os
  output : w'.output = w.output

structure EnvOk (κ : Nat → Value) (E : Env) (B : Bd) : Prop where
  memo : ∀ f l m, E.memo.get f = some l → m ∈ l → MemoOk κ E.P B E.G f m
  fns : ∀ f fn, E.fns.get f = some fn → E.P.funcs[f]? = some fn ∧ (fn.name == "runtime.NumGoroutine") = false
  orc : ∀ f g, E.orc f = some g → ∀ args v, g args = some v → afL args = true → af v = true → ∀ w, B.n ≤ w.heap.size → (∀ β, β < B.n → w.heap[β]? = B.w.heap[β]?) → Ran E.P f ⟨args⟩ w fun e w' => e = .returned v ∧ Quiet w w'
  idf : ∀ f, E.idf f = true → ∀ v w, (callFunc f #[v]).run E.P w = .ok (.value v) w
  mix : E.P.follows .mixedOrders = true

theorem Quiet.stp {κ : Nat → Value} {P : Program} {B : Bd} {G : Nat} {φ : Phi} {h : Heap} {w w' : World} (c : Nat) (hR : Rel κ P B G φ h w) (hB : B.n ≤ w.heap.size) (q : Quiet w w') : Stp κ P B G c c φ φ h h w w' :=
  { cc := Nat.le_refl _, ext := fun _ _ => rfl, new := fun _ e => .inl e, rel := ⟨fun id o e => by
      obtain ⟨r, x, h1, h2, h3, h4⟩ := hR.obj id o e
      exact ⟨r, x, h1, by rw [q.heap _ (Array.getElem?_eq_some_iff.1 h2).1]; exact h2, h3, h4⟩, hR.inj, hR.glob, fun β hβ => (q.heap β (by omega)).trans (hR.base β hβ)⟩, size := q.size, frame := fun β hb _ => q.heap β hb, own := fun i o r e e' => .inl ⟨i, o, r, e, e', rfl, fun q => q⟩, tape := q.tape, os := q.os, output := q.output }

theorem unw_live {H : Handler} : ∀ {n : Nat} {ds : List Deferred} {u : U} {c : Nat} {h : Heap} {u' : U} {c' : Nat} {h' : Heap}, unw H n ds u c h = some (u', c', h') → (∀ v, u ≠ some (v, true)) → ∀ v, u' ≠ some (v, true) := by
  intro n
  induction n with
  | zero => intro ds u c h u' c' h' hh; simp [unw] at hh
  | succ n ih =>
    intro ds u c h u' c' h' hh hu
    cases ds with
    | nil => simp only [unw, Option.some.injEq, Prod.mk.injEq] at hh; obtain ⟨rfl, _, _⟩ := hh; exact hu
    | cons d ds =>
      simp only [unw] at hh
      split at hh
      · split at hh
        · simp only [Tr.setK_eq] at hh
          exact ih hh hu
        · cases hh
      · split at hh
        · rename_i u1 _ _ _
          refine ih hh fun v e => ?_
          unfold settleU at e
          split at e
          · cases e
          · rename_i hne; exact hne v (by rw [e])
        · cases hh
      · cases hh

theorem callFunc_enter {P : Program} {f : FuncId} {fn : Func} {bd : Code} (hf : P.funcs[f]? = some fn) (hn : (fn.name == "runtime.NumGoroutine") = false) (hb : fn.body = some bd) (args : Array Value) (w : World) : (callFunc f args).run P w = .ok (.enter f args) w := by
  unfold callFunc
  have hn2 : ¬ fn.name = "runtime.NumGoroutine" := by simpa using hn
  simp [hf, hn2, hb]

theorem callD_ext {κ : Nat → Value} {E : Env} {B : Bd} (hE : EnvOk κ E B) : ∀ {d : Nat} {q : Rq} {c : Nat} {h : Heap} {ot : Ot} {c' : Nat} {h' : Heap}, callD E d q c h = some (ot, c', h') → Ext c h c' h' := by
  intro d
  induction d with
  | zero => intro q c h ot c' h' hh; simp [callD] at hh
  | succ d ih =>
    intro q c h ot c' h' hh
    have hm : ∀ {q c h ot c' h'}, callD E d q c h = some (ot, c', h') → Ext c h c' h' := fun e => ih e
    cases q with
    | fn f args =>
      simp only [callD] at hh
      split at hh
      · rename_i r0 hq
        simp only [Option.some.injEq] at hh
        subst hh
        split at hq
        · cases hq
        · rename_i l hl
          obtain ⟨m, hm, rfl, rfl, hp, hr⟩ := memoL_spec hq
          cases hr
          exact memo_ext (hE.memo f l m hl hm) hp
      · split at hh
        · split at hh
          · split at hh
            · simp only [fV_eq, Option.some.injEq, Prod.mk.injEq] at hh
              obtain ⟨_, rfl, rfl⟩ := hh
              exact Ext.refl _ _
            · cases hh
          · cases hh
        · split at hh
          · cases hh
          · split at hh
            · cases hh
            · split at hh
              · rename_i hb
                have e1 := body_ext hm hb
                split at hh
                · rename_i hu
                  have e2 := unw_ext hm hu
                  split at hh
                  · simp only [fV_eq, Option.some.injEq, Prod.mk.injEq] at hh
                    obtain ⟨_, rfl, rfl⟩ := hh
                    exact e1.trans e2
                  · cases hh
                · cases hh
              · rename_i hb
                have e1 := body_ext hm hb
                split at hh
                · rename_i hu
                  have e2 := unw_ext hm hu
                  split at hh
                  · simp only [fV_eq, Option.some.injEq, Prod.mk.injEq] at hh
                    obtain ⟨_, rfl, rfl⟩ := hh
                    exact e1.trans e2
                  · cases hh
                · rename_i hu
                  have e2 := unw_ext hm hu
                  simp only [Option.some.injEq, Prod.mk.injEq] at hh
                  obtain ⟨_, rfl, rfl⟩ := hh
                  exact e1.trans e2
                · cases hh
              · cases hh
    | dfd f args u =>
      simp only [callD] at hh
      split at hh
      · cases hh
      · split at hh
        · cases hh
        · split at hh
          · cases hh
          · split at hh
            · rename_i hb
              have e1 := body_ext hm hb
              split at hh
              · simp only [Option.some.injEq, Prod.mk.injEq] at hh
                obtain ⟨_, rfl, rfl⟩ := hh
                exact e1
              · cases hh
            · cases hh
    | rnd l args =>
      simp only [callD] at hh
      split at hh
      · split at hh
        · split at hh
          · rename_i hb
            have e1 := body_ext hm hb
            split at hh
            · rename_i hg
              simp only [Tr.setK_eq, Option.some.injEq, Prod.mk.injEq] at hh
              obtain ⟨_, rfl, rfl⟩ := hh
              exact e1.trans (Ext.upd (by rw [hg]; simp))
            · cases hh
          · rename_i hb
            have e1 := body_ext hm hb
            split at hh
            · simp only [Option.some.injEq, Prod.mk.injEq] at hh
              obtain ⟨_, rfl, rfl⟩ := hh
              exact e1
            · cases hh
          · cases hh
        · cases hh
      · cases hh
end Go.Qe
end
section
set_option linter.unusedVariables false
set_option linter.unusedSimpArgs false
namespace Go.Qe
set_option linter.unusedSectionVars false
section
variable {κ : Nat → Value} {E : Env} {B0 : Bd}

theorem enter_atR {P : Program} {f : FuncId} {fn : Func} {bd : Code} (hf : P.funcs[f]? = some fn) (hb : fn.body = some bd) (args : Array Value) (kind : CallKind) :
    Frame.enter P f args kind = (Frame.enter P f args kind).atR ⟨args ++ Array.replicate (fn.ntmps - args.size) undef, []⟩ [.code bd] := by
  simp [Frame.enter, Frame.atR, hf, hb]

theorem callD_fn (hE : EnvOk κ E B0) {d : Nat} (hH : HOk κ E.P B0 E.G (callD E d)) {f : FuncId} {args : List Value} {c : Nat} {h : Heap} {ot : Ot} {c' : Nat} {h' : Heap} (hh : callD E (d + 1) (.fn f args) c h = some (ot, c', h'))
    {φ : Phi} {w : World} {args' : List Value} (hf : fresh φ c c') (hR : Rel κ E.P B0 E.G φ h w) (hG : E.G ≤ c) (hB : B0.n ≤ w.heap.size) (hV : VL κ φ args args') :
    Ran E.P f ⟨args'⟩ w fun e w' => ∃ φ', Stp κ E.P B0 E.G c c' φ φ' h h' w w' ∧ OtR κ φ' ot e := by
  simp only [callD] at hh
  split at hh
  · rename_i r0 hq
    simp only [Option.some.injEq] at hh
    subst hh
    split at hq
    · cases hq
    · rename_i l hl
      obtain ⟨m, hm, rfl, rfl, hp, hr⟩ := memoL_spec hq
      cases hr
      exact memo_ran (hE.memo f l m hl hm) hp hf hR hG hB hV
  rename_i hmemo
  clear hmemo
  split at hh
  · rename_i g horc
    split at hh
    · rename_i v haf hg
      split at hh
      · rename_i hav
        simp only [fV_eq, Option.some.injEq, Prod.mk.injEq] at hh
        obtain ⟨rfl, rfl, rfl⟩ := hh
        have := hV.eq_of_af haf
        subst this
        rcases hE.orc f g horc args' v hg haf hav w hB hR.base with ⟨v', w', h1, h2, h3⟩ | ⟨h1, h2⟩
        · cases h2
          exact .inl ⟨v, w', h1, φ, h3.stp c hR hB, V.af (κ := κ) (φ := φ) hav⟩
        · refine .inr ⟨h1, fun cs => ?_⟩
          obtain ⟨e, w', fr, ⟨he, hq⟩, hc⟩ := h2 cs
          subst he
          exact ⟨.returned v, w', fr, ⟨φ, hq.stp c hR hB, V.af (κ := κ) (φ := φ) hav⟩, hc⟩
      · cases hh
    · cases hh
  · split at hh
    · cases hh
    · rename_i fn hfn
      split at hh
      · cases hh
      · rename_i bd hbd
        obtain ⟨hfs, hname⟩ := hE.fns f fn hfn
        refine .inr ⟨callFunc_enter hfs hname hbd _ _, fun cs => ?_⟩
        have hlen := hV.length
        have hT0 := enter_tm (n := fn.ntmps) hV
        have hS : SR κ E.P B0 E.G (max fn.ntmps args.length) φ (ofArgs args 0 .e) [] h none ⟨⟨args'⟩ ++ Array.replicate (fn.ntmps - (⟨args'⟩ : Array Value).size) undef, []⟩ w .returning := ⟨hR, hT0, .nil, .ret, hB⟩
        have hcs : CsOk false (Frame.enter E.P f ⟨args'⟩ .normal) (fun _ => cs) := ⟨cs, fun _ => rfl⟩
        have hat := enter_atR hfs hbd (⟨args'⟩ : Array Value) .normal
        split at hh
        · rename_i tm1 df1 c1 h1 u1 hb
          split at hh
          · rename_i c2 h2 hu
            split at hh
            · rename_i r hr
              simp only [fV_eq, Option.some.injEq, Prod.mk.injEq] at hh
              obtain ⟨rfl, rfl, rfl⟩ := hh
              have hge := (unw_ext hH.ext hu).1
              have hbo := body_sound (ro := none) (b := Frame.enter E.P f ⟨args'⟩ .normal) (CS := fun _ => cs) hH hE.idf hcs hE.mix hb hS hG (hf.left hge) rfl
              obtain ⟨_, φ1, a1, w1, um1, td1, s1, s2, s3⟩ := hbo
              have hle1 := s1.le (hf.left hge)
              obtain ⟨φ2, um2, w2, t1, t2, t3⟩ := unw_sound (cs := cs) hH hu s2.rel .ret (fr := { (Frame.enter E.P f ⟨args'⟩ .normal).atR a1 td1 with mode := .returning }) s2.df rfl (Nat.le_trans hG s1.cc) s2.B (hf.right s1)
              have hle2 := t1.le (hf.right s1)
              cases t2 with
              | ret =>
                obtain ⟨v', hres, hVr⟩ := results_sound (s2.tm.mono hle2) t1.rel hr
                rw [hat]
                exact ⟨.returned v', w2, _, ⟨φ2, s1.trans t1, hVr⟩, Steps.trans s3 t3, rfl, rfl, rfl, rfl, fn, hfs, hres⟩
            · cases hh
          · cases hh
        · rename_i v tm1 df1 c1 h1 u1 hb
          have hlive := fun {u' c2 h2} (hu : unw (callD E d) steps df1 (some (v, false)) c1 h1 = some (u', c2, h2)) => unw_live hu (fun v e => by cases e)
          have step1 := fun (hge : c1 ≤ c') => body_sound (ro := none) (b := Frame.enter E.P f ⟨args'⟩ .normal) (CS := fun _ => cs) hH hE.idf hcs hE.mix hb hS hG (hf.left hge) rfl
          split at hh
          · rename_i c2 h2 hu
            split at hh
            · rename_i r hr
              simp only [fV_eq, Option.some.injEq, Prod.mk.injEq] at hh
              obtain ⟨rfl, rfl, rfl⟩ := hh
              have hge := (unw_ext hH.ext hu).1
              obtain ⟨φ1, a1, w1, um1, td1, v', s1, s2, sV, s3⟩ := step1 hge
              obtain ⟨φ2, um2, w2, t1, t2, t3⟩ := unw_sound (cs := cs) hH hu s2.rel (.pan sV) (fr := { (Frame.enter E.P f ⟨args'⟩ .normal).atR a1 td1 with mode := .panicking [{ v := v', recovered := false }] }) s2.df rfl (Nat.le_trans hG s1.cc) s2.B (hf.right s1)
              have hle2 := t1.le (hf.right s1)
              rcases s2.tm with e0 | hT
              · subst e0
                simp [steps, unw] at hu
              · cases t2 with
                | ret =>
                  obtain ⟨v2, hres, hVr⟩ := results_sound (hT.mono hle2) t1.rel hr
                  rw [hat]
                  exact ⟨.returned v2, w2, _, ⟨φ2, s1.trans t1, hVr⟩, Steps.trans s3 t3, rfl, rfl, rfl, rfl, fn, hfs, hres⟩
            · cases hh
          · rename_i v2 r2 c2 h2 hu
            simp only [Option.some.injEq, Prod.mk.injEq] at hh
            obtain ⟨rfl, rfl, rfl⟩ := hh
            have hge := (unw_ext hH.ext hu).1
            obtain ⟨φ1, a1, w1, um1, td1, v', s1, s2, sV, s3⟩ := step1 hge
            obtain ⟨φ2, um2, w2, t1, t2, t3⟩ := unw_sound (cs := cs) hH hu s2.rel (.pan sV) (fr := { (Frame.enter E.P f ⟨args'⟩ .normal).atR a1 td1 with mode := .panicking [{ v := v', recovered := false }] }) s2.df rfl (Nat.le_trans hG s1.cc) s2.B (hf.right s1)
            have hr2 := hlive hu v2
            cases t2 with
            | pan hV2 =>
              cases r2 with
              | true => exact absurd rfl hr2
              | false =>
                rw [hat]
                exact ⟨.panicked _, w2, _, ⟨φ2, s1.trans t1, _, rfl, hV2⟩, Steps.trans s3 t3, rfl, rfl, rfl, fn, hfs⟩
          · cases hh
        · cases hh
end
end Go.Qe
end
section
set_option linter.unusedVariables false
set_option linter.unusedSimpArgs false
namespace Go.Qe
set_option linter.unusedSectionVars false
section
variable {κ : Nat → Value} {E : Env} {B0 : Bd}

theorem callD_dfd (hE : EnvOk κ E B0) {d : Nat} (hH : HOk κ E.P B0 E.G (callD E d)) {f : FuncId} {args : List Value} {u : U} {c : Nat} {h : Heap} {ot : Ot} {c' : Nat} {h' : Heap} (hh : callD E (d + 1) (.dfd f args u) c h = some (ot, c', h'))
    {φ : Phi} {w : World} {args' : List Value} {um : FrameMode} (hf : fresh φ c c') (hR : Rel κ E.P B0 E.G φ h w) (hG : E.G ≤ c) (hB : B0.n ≤ w.heap.size) (hV : VL κ φ args args') (hu : UR κ φ u um) :
    (callFunc f ⟨args'⟩).run E.P w = .ok (.enter f ⟨args'⟩) w ∧ CallsD E.P f ⟨args'⟩ um w fun e um' w' => ∃ φ', Stp κ E.P B0 E.G c c' φ φ' h h' w w' ∧ ∃ v u' v', ot = .ret v u' ∧ e = .returned v' ∧ UR κ φ' u' um' := by
  simp only [callD] at hh
  split at hh
  · cases hh
  · split at hh
    · cases hh
    · rename_i fn hfn
      split at hh
      · cases hh
      · rename_i bd hbd
        obtain ⟨hfs, hname⟩ := hE.fns f fn hfn
        refine ⟨callFunc_enter hfs hname hbd _ _, fun c0 cs hm => ?_⟩
        have hT0 := enter_tm (n := fn.ntmps) hV
        have hS : SR κ E.P B0 E.G (max fn.ntmps args.length) φ (ofArgs args 0 .e) [] h u ⟨⟨args'⟩ ++ Array.replicate (fn.ntmps - (⟨args'⟩ : Array Value).size) undef, []⟩ w um := ⟨hR, hT0, .nil, hu, hB⟩
        have hcs : CsOk true (Frame.enter E.P f ⟨args'⟩ .deferred) (fun um => { c0 with mode := um } :: cs) := ⟨rfl, rfl, c0, cs, fun _ => rfl⟩
        have hat := enter_atR hfs hbd (⟨args'⟩ : Array Value) .deferred
        split at hh
        · rename_i tm1 df1 c1 h1 u1 hb
          split at hh
          · rename_i r hr
            simp only [Option.some.injEq, Prod.mk.injEq] at hh
            obtain ⟨rfl, rfl, rfl⟩ := hh
            have hbo := body_sound (ro := none) (b := Frame.enter E.P f ⟨args'⟩ .deferred) (CS := fun um => { c0 with mode := um } :: cs) hH hE.idf hcs hE.mix hb hS hG hf rfl
            obtain ⟨_, φ1, a1, w1, um1, td1, s1, s2, s3⟩ := hbo
            obtain ⟨v', hres, hVr⟩ := results_sound s2.tm s1.rel hr
            have hd0 : a1.defers = [] := by
              have := s2.df
              generalize a1.defers = l at this
              cases this; rfl
            refine ⟨.returned v', um1, w1, { (Frame.enter E.P f ⟨args'⟩ .deferred).atR a1 td1 with mode := .returning }, ⟨φ1, s1, _, _, v', rfl, rfl, s2.u⟩, ?_, rfl, rfl, hd0, fn, hfs, hres⟩
            rw [hat]
            have e0 : ({ c0 with mode := um } : Frame) = c0 := by rw [← hm]
            have s3' := s3
            simp only [e0] at s3'
            exact s3'
          · cases hh
        · cases hh

theorem fold_tm {φ : Phi} {nt : Nat} : ∀ {ps : List Nat} {args args' : List Value} {tm : Tr Value} {rt : Array Value}, VL κ φ args args' → TmR κ φ nt tm rt →
    TmR κ φ nt ((ps.zip args).foldl (fun tm (t, a) => match Nat.blt t nt with
      | true => tm.set t a
      | false => tm) tm) ((ps.zip args').foldl (fun tmps (t, a) => tmps.setIfInBounds t a) rt) := by
  intro ps
  induction ps with
  | nil => intro args args' tm rt _ h; exact h
  | cons p ps ih =>
    intro args args' tm rt hV h
    cases hV with
    | nil => exact h
    | cons a b =>
      simp only [List.zip_cons_cons, List.foldl_cons]
      exact ih b (TmR.put (a := ⟨rt, []⟩) h a (some p))
end
end Go.Qe
end
section
set_option linter.unusedVariables false
set_option linter.unusedSimpArgs false
namespace Go.Qe
set_option linter.unusedSectionVars false
section
variable {κ : Nat → Value} {E : Env} {B0 : Bd}

theorem callD_rnd (hE : EnvOk κ E B0) {d : Nat} (hH : HOk κ E.P B0 E.G (callD E d)) {l : Nat} {args : List Value} {c : Nat} {h : Heap} {ot : Ot} {c' : Nat} {h' : Heap} (hh : callD E (d + 1) (.rnd l args) c h = some (ot, c', h'))
    {φ : Phi} {w : World} {args' : List Value} {p : Pl} (hf : fresh φ c c') (hR : Rel κ E.P B0 E.G φ h w) (hG : E.G ≤ c) (hB : B0.n ≤ w.heap.size) (hV : VL κ φ args args') (hp : φ l = some p) :
    Rounds E.P p.β ⟨args'⟩ w fun e w' => ∃ φ', Stp κ E.P B0 E.G c c' φ φ' h h' w w' ∧ OtR κ φ' ot e := by
  simp only [callD] at hh
  split at hh
  · rename_i r hg
    obtain ⟨rt, q, hT, hq, hw, ho⟩ := loop_get hR hg hp
    split at hh
    · rename_i hlen
      have hlen := Nat.eq_of_beq_eq_true hlen
      have hyl := run_yield (P := E.P) (args := ⟨args'⟩) hw (by show args'.length = r.params.size; rw [hV.length]; exact hlen)
      refine ⟨_, _, _, _, hyl, fun c0 cs => ?_⟩
      have hT0 := fold_tm (ps := r.params.toList) hV hT
      have hfold : (Array.zip r.params ⟨args'⟩).foldl (fun tmps (t, a) => tmps.setIfInBounds t a) rt = (r.params.toList.zip args').foldl (fun tmps (t, a) => tmps.setIfInBounds t a) rt := by
        rw [← Array.foldl_toList, Array.toList_zip]
      have hS : SR κ E.P B0 E.G r.nt φ _ [] h none ⟨(r.params.toList.zip args').foldl (fun tmps (t, a) => tmps.setIfInBounds t a) rt, []⟩ w .returning := ⟨hR, hT0, .nil, .ret, hB⟩
      have hcs : CsOk false (Frame.round p.β r.fn ((r.params.toList.zip args').foldl (fun tmps (t, a) => tmps.setIfInBounds t a) rt) r.assign r.body .normal) (fun _ => c0 :: cs) := ⟨c0 :: cs, fun _ => rfl⟩
      have hat : Frame.round p.β r.fn ((r.params.toList.zip args').foldl (fun tmps (t, a) => tmps.setIfInBounds t a) rt) r.assign r.body .normal = (Frame.round p.β r.fn ((r.params.toList.zip args').foldl (fun tmps (t, a) => tmps.setIfInBounds t a) rt) r.assign r.body .normal).atR ⟨(r.params.toList.zip args').foldl (fun tmps (t, a) => tmps.setIfInBounds t a) rt, []⟩ [.code r.assign, .beginRound, .code r.body] := rfl
      have hfold2 : (Frame.round p.β r.fn ((Array.zip r.params ⟨args'⟩).foldl (fun tmps (t, a) => tmps.setIfInBounds t a) rt) r.assign r.body .normal) = Frame.round p.β r.fn ((r.params.toList.zip args').foldl (fun tmps (t, a) => tmps.setIfInBounds t a) rt) r.assign r.body .normal := by rw [hfold]
      split at hh
      · rename_i j tm1 c1 h1 u1 hb
        split at hh
        · rename_i r1 hg1
          simp only [Tr.setK_eq, Option.some.injEq, Prod.mk.injEq] at hh
          obtain ⟨rfl, rfl, rfl⟩ := hh
          have hbo := body_sound (ro := some l) (b := Frame.round p.β r.fn ((r.params.toList.zip args').foldl (fun tmps (t, a) => tmps.setIfInBounds t a) rt) r.assign r.body .normal) (CS := fun _ => c0 :: cs) hH hE.idf hcs hE.mix hb hS hG hf ⟨p, hp, rfl⟩
          obtain ⟨_, φ1, a1, w1, um1, td1, s1, s2, sj, s3⟩ := hbo
          have hle1 := s1.le hf
          obtain ⟨rt1, q1, hT1, hq1, hw1, _⟩ := loop_get s1.rel hg1 (hle1 _ _ hp)
          have hrun := run_endRound (P := E.P) j hw1
          have s4 := stp_loop (c := c1) (r1 := { r1 with state := if j.isNone then .ready else .done, pending := j }) s1.rel hg1 (hle1 _ _ hp) ho hT1 hq1
          refine ⟨.returned (.bool j.isNone), _, ⟨φ1, s1.trans s4, V.af (κ := κ) (φ := φ1) rfl⟩, ?_⟩
          show Steps E.P (lone (Frame.round p.β r.fn ((Array.zip r.params ⟨args'⟩).foldl (fun tmps (t, a) => tmps.setIfInBounds t a) rt) r.assign r.body .normal) (c0 :: cs) w) _
          rw [hfold2, hat]
          refine Steps.trans s3 (.one ?_)
          cases sj with
          | fin => exact stepR_round_end rfl rfl hrun
          | ret => exact stepR_round_ret rfl rfl hrun
          | exit hx => exact stepR_round_exit rfl rfl hx hrun
          | goto hx => exact stepR_round_goto rfl rfl hx hrun
        · cases hh
      · rename_i v tm1 c1 h1 u1 hb
        split at hh
        · rename_i fn hfn
          simp only [Option.some.injEq, Prod.mk.injEq] at hh
          obtain ⟨rfl, rfl, rfl⟩ := hh
          have hbo := body_sound (ro := some l) (b := Frame.round p.β r.fn ((r.params.toList.zip args').foldl (fun tmps (t, a) => tmps.setIfInBounds t a) rt) r.assign r.body .normal) (CS := fun _ => c0 :: cs) hH hE.idf hcs hE.mix hb hS hG hf ⟨p, hp, rfl⟩
          obtain ⟨φ1, a1, w1, um1, td1, v', s1, s2, sV, s3⟩ := hbo
          have hd0 : a1.defers = [] := by
            have := s2.df
            generalize a1.defers = l at this
            cases this; rfl
          refine ⟨.panicked _, w1, ⟨φ1, s1, v', rfl, sV⟩, ?_⟩
          show Steps E.P (lone (Frame.round p.β r.fn ((Array.zip r.params ⟨args'⟩).foldl (fun tmps (t, a) => tmps.setIfInBounds t a) rt) r.assign r.body .normal) (c0 :: cs) w) _
          rw [hfold2, hat]
          exact Steps.trans s3 (.one (step_leave_panicked (chain := [{ v := v', recovered := false }]) ⟨rfl, hd0, fn, (hE.fns _ _ hfn).1⟩))
        · cases hh
      · cases hh
    · cases hh
  · cases hh

theorem callD_ok (hE : EnvOk κ E B0) : ∀ d, HOk κ E.P B0 E.G (callD E d) := by
  intro d
  induction d with
  | zero =>
    exact ⟨fun e => by simp [callD] at e, fun e => by simp [callD] at e, fun e => by simp [callD] at e, fun e => by simp [callD] at e⟩
  | succ d ih =>
    refine ⟨fun e => callD_ext hE e, ?_, ?_, ?_⟩
    · intro f args c h ot c' h' e φ w args' hf hR hG hB hV; exact callD_fn hE ih e hf hR hG hB hV
    · intro l args c h ot c' h' e φ w args' p hf hR hG hB hV hp; exact callD_rnd hE ih e hf hR hG hB hV hp
    · intro f args u c h ot c' h' e φ w args' um hf hR hG hB hV hu; exact callD_dfd hE ih e hf hR hG hB hV hu
end
end Go.Qe
end
section
set_option linter.unusedVariables false
set_option linter.unusedSimpArgs false
namespace Go.Qe
def phi0 (G : Nat) : Phi := fun g => if g < G then some ⟨g, 0, 0, 0⟩ else none
theorem rel0 {κ : Nat → Value} {P : Program} {n G : Nat} {w : World} : Rel κ P ⟨n, w⟩ G (phi0 G) .e w :=
  ⟨fun id o e => by simp at e, fun id id' o o' r r' e => by simp at e, fun g hg => ⟨⟨g, 0, 0, 0⟩, if_pos hg, rfl, rfl⟩, fun _ _ => rfl⟩
theorem eval_ran {κ : Nat → Value} {E : Env} {w : World} (hE : EnvOk κ E ⟨w.heap.size, w⟩) {d c : Nat} (hc : E.G ≤ c) {f : FuncId} {args : List Value} {v : Value} {u : U} {c' : Nat} {h' : Heap}
    (hh : callD E d (.fn f args) c .e = some (.ret v u, c', h')) {args' : List Value} (hV : VL κ (phi0 E.G) args args') : Ran E.P f ⟨args'⟩ w fun e w' => ∃ φ' v', e = .returned v' ∧ V κ φ' v v' ∧ Quiet w w' := by
  have hH := callD_ok (κ := κ) hE d
  have hr := hH.fn hh (φ := phi0 E.G) (fun id h1 _ => if_neg (by omega)) rel0 hc (Nat.le_refl _) hV
  have key : ∀ e w', (∃ φ', Stp κ E.P ⟨w.heap.size, w⟩ E.G c c' (phi0 E.G) φ' .e h' w w' ∧ OtR κ φ' (.ret v u) e) → ∃ φ' v', e = .returned v' ∧ V κ φ' v v' ∧ Quiet w w' := by
    rintro e w' ⟨φ', s, ho⟩
    cases e with
    | returned v' => exact ⟨φ', v', rfl, ho, ⟨s.size, fun β hb => s.frame β hb (fun id o r e => by simp at e), s.tape, s.os, s.output⟩⟩
    | panicked ch => exact ho.elim
    | outgrown => exact ho.elim
  rcases hr with ⟨v', w', h1, h2⟩ | ⟨h1, h2⟩
  · exact .inl ⟨v', w', h1, key _ _ h2⟩
  · refine .inr ⟨h1, fun cs => ?_⟩
    obtain ⟨e, w', fr, he, hc⟩ := h2 cs
    exact ⟨e, w', fr, key _ _ he, hc⟩
end Go.Qe
end
section
set_option linter.unusedVariables false
set_option linter.unusedSimpArgs false
namespace Go.Qe
def oteq : Ot → Ot → Bool
  | .ret v none, .ret v' none => vbeq v v'
  | _, _ => false
theorem oteq_eq {a b : Ot} (h : oteq a b = true) : a = b := by
  unfold oteq at h
  split at h
  · rw [vbeq_eq _ _ h]
  · cases h
noncomputable def memoRun (E : Env) (d f : Nat) (m : Memo) : Bool := match callD E d (.fn f m.args) m.c (ofP m.pre) with
  | some (ot, c', h) => oteq ot m.ot && Nat.beq c' m.c' && m.post.all fun (id, o) => obeq (h.get id) (some o)
  | none => false
theorem memo_ok {κ : Nat → Value} {E : Env} {B : Bd} (hE : EnvOk κ E B) {d f : Nat} {m : Memo} (hr : memoRun E d f m = true) : MemoOk κ E.P B E.G f m := by
  unfold memoRun at hr
  split at hr
  · rename_i ot c' h' hc
    simp only [Bool.and_eq_true] at hr
    obtain ⟨⟨h1, h2⟩, h3⟩ := hr
    have h1 := oteq_eq h1
    have h2 := Nat.eq_of_beq_eq_true h2
    subst h1 h2
    have hs : Qe.sub (ofP m.post) h' := fun id o e => obeq_eq (List.all_eq_true.1 h3 (id, o) (ofP_mem e))
    have hx := callD_ext hE hc
    refine ⟨⟨hx.1, fun id e => hx.2 id ?_⟩, ?_⟩
    · cases hq : (ofP m.post).get id with
      | none => exact absurd hq e
      | some o => rw [hs _ _ hq]; simp
    · intro φ w args' hf hR hG hB hV
      refine ((callD_ok hE d).fn hc hf hR hG hB hV).mono ?_
      rintro e w' ⟨φ', k, ho⟩
      exact ⟨φ', k.less hs, ho⟩
  · cases hr
/-- The memos by their functions. -/
def mkMemo : List (Nat × Memo) → Tr (List Memo)
  | [] => .e
  | (f, m) :: l => (mkMemo l).set f (m :: ((mkMemo l).get f).getD [])
theorem mkMemo_mem : ∀ {L : List (Nat × Memo)} {f : Nat} {l : List Memo} {m : Memo}, (mkMemo L).get f = some l → m ∈ l → (f, m) ∈ L
  | [], _, _, _, h, _ => by simp [mkMemo] at h
  | (g, x) :: L, f, l, m, h, hm => by
    simp only [mkMemo, Tr.get_set] at h
    split at h
    · rename_i e
      subst e
      simp only [Option.some.injEq] at h
      subst h
      rcases List.mem_cons.1 hm with rfl | hm
      · exact List.mem_cons_self
      · cases hq : (mkMemo L).get g with
        | none => rw [hq] at hm; simp at hm
        | some l' =>
          rw [hq] at hm
          exact List.mem_cons_of_mem _ (mkMemo_mem hq hm)
    · exact List.mem_cons_of_mem _ (mkMemo_mem h hm)
theorem EnvOk.memos {κ : Nat → Value} {E : Env} {B : Bd} (hE : EnvOk κ E B) (L : List (Nat × Memo)) (h : ∀ f m, (f, m) ∈ L → MemoOk κ E.P B E.G f m) : EnvOk κ { E with memo := mkMemo L } B :=
  ⟨fun f l m hg hm => h f m (mkMemo_mem hg hm), hE.fns, hE.orc, hE.idf, hE.mix⟩
end Go.Qe
end
