/- An evaluator for the model's code over a heap of numbered objects, and its light operations held against the model's own. Conditions: as each theorem states. -/
import Derived.AtR
import Derived.Calls
import Derived.Defers
import Derived.Orders
import Derived.Laws.Sem
import Derived.Laws.Cells
import Derived.Laws.IdiomCopy
import Derived.Laws.Rows
import Derived.ChangeKeysEq
import Derived.Laws.BytesString
import Derived.Laws.IdiomStrings
import Derived.Laws.LoneSync
import Derived.Laws.BitsLemmas
import Derived.Laws.Append
section
set_option linter.unusedVariables false
set_option linter.unusedSimpArgs false
namespace Go.Qe

/-! ### Tries keyed by numbers -/
inductive Tr (α : Type) where
  | e : Tr α
  | n (l : Tr α) (v : Option α) (r : Tr α) : Tr α

namespace Tr
variable {α β : Type}
def get : Tr α → Nat → Option α
  | .e, _ => none
  | .n _ v _, 0 => v
  | .n l _ r, i + 1 => match Nat.beq (i % 2) 0 with
    | true => l.get (i / 2)
    | false => r.get (i / 2)

def sing : Nat → Nat → α → Tr α
  | _, 0, v => .n .e (some v) .e
  | 0, _ + 1, _ => .e
  | f + 1, i + 1, v => match Nat.beq (i % 2) 0 with
    | true => .n (sing f (i / 2) v) none .e
    | false => .n .e none (sing f (i / 2) v)

def set : Tr α → Nat → α → Tr α
  | .e, i, v => sing i i v
  | .n l _ r, 0, v => .n l (some v) r
  | .n l x r, i + 1, v => match Nat.beq (i % 2) 0 with
    | true => .n (l.set (i / 2) v) x r
    | false => .n l x (r.set (i / 2) v)

def del : Tr α → Nat → Tr α
  | .e, _ => .e
  | .n l _ r, 0 => .n l none r
  | .n l x r, i + 1 => match Nat.beq (i % 2) 0 with
    | true => .n (l.del (i / 2)) x r
    | false => .n l x (r.del (i / 2))

def singK : Nat → Nat → α → (Tr α → β) → β
  | _, 0, v, k => k (.n .e (some v) .e)
  | 0, _ + 1, _, k => k .e
  | f + 1, i + 1, v, k => match Nat.beq (i % 2) 0 with
    | true => singK f (i / 2) v fun t => k (.n t none .e)
    | false => singK f (i / 2) v fun t => k (.n .e none t)

def setK : Tr α → Nat → α → (Tr α → β) → β
  | .e, i, v, k => singK i i v k
  | .n l _ r, 0, v, k => k (.n l (some v) r)
  | .n l x r, i + 1, v, k => match Nat.beq (i % 2) 0 with
    | true => l.setK (i / 2) v fun t => k (.n t x r)
    | false => r.setK (i / 2) v fun t => k (.n l x t)

def delK : Tr α → Nat → (Tr α → β) → β
  | .e, _, k => k .e
  | .n l _ r, 0, k => k (.n l none r)
  | .n l x r, i + 1, k => match Nat.beq (i % 2) 0 with
    | true => l.delK (i / 2) fun t => k (.n t x r)
    | false => r.delK (i / 2) fun t => k (.n l x t)

theorem singK_eq (f : Nat) : ∀ (i : Nat) (v : α) (k : Tr α → β), singK f i v k = k (sing f i v) := by
  induction f with
  | zero => intro i v k; cases i <;> rfl
  | succ f ih =>
    intro i v k
    cases i with
    | zero => rfl
    | succ i => simp only [singK, sing]; split <;> simp [ih]

@[simp] theorem setK_eq (t : Tr α) : ∀ (i : Nat) (v : α) (k : Tr α → β), t.setK i v k = k (t.set i v) := by
  induction t with
  | e => intro i v k; exact singK_eq i i v k
  | n l x r ihl ihr =>
    intro i v k
    cases i with
    | zero => rfl
    | succ i => simp only [setK, set]; split <;> simp [ihl, ihr]

@[simp] theorem delK_eq (t : Tr α) : ∀ (i : Nat) (k : Tr α → β), t.delK i k = k (t.del i) := by
  induction t with
  | e => intro i k; rfl
  | n l x r ihl ihr =>
    intro i k
    cases i with
    | zero => rfl
    | succ i => simp only [delK, del]; split <;> simp [ihl, ihr]

@[simp] theorem get_e (i : Nat) : (Tr.e : Tr α).get i = none := by cases i <;> rfl

theorem beq_iff (i : Nat) : (Nat.beq (i % 2) 0 = true ↔ i % 2 = 0) := ⟨Nat.eq_of_beq_eq_true, fun h => by rw [h]; rfl⟩

theorem get_sing (f : Nat) : ∀ (i j : Nat) (v : α), i ≤ f → (sing f i v).get j = if i = j then some v else none := by
  induction f with
  | zero =>
    intro i j v h
    obtain rfl : i = 0 := by omega
    cases j with
    | zero => rfl
    | succ j => simp only [sing, get]; split <;> simp
  | succ f ih =>
    intro i j v h
    cases i with
    | zero =>
      cases j with
      | zero => rfl
      | succ j => simp only [sing, get]; split <;> simp
    | succ i =>
      cases hb : Nat.beq (i % 2) 0 with
      | true =>
        have h1 := (beq_iff i).1 hb
        cases j with
        | zero => simp [sing, hb, get]
        | succ j =>
          simp only [sing, hb, get]
          cases hc : Nat.beq (j % 2) 0 with
          | true =>
            have h2 := (beq_iff j).1 hc
            simp only [ih (i / 2) (j / 2) v (by omega)]
            by_cases e : i = j
            · subst e; simp
            · rw [if_neg (by omega), if_neg (by omega)]
          | false =>
            have h2 : ¬ j % 2 = 0 := fun h => by rw [(beq_iff j).2 h] at hc; cases hc
            rw [if_neg (by omega)]
      | false =>
        have h1 : ¬ i % 2 = 0 := fun h => by rw [(beq_iff i).2 h] at hb; cases hb
        cases j with
        | zero => simp [sing, hb, get]
        | succ j =>
          simp only [sing, hb, get]
          cases hc : Nat.beq (j % 2) 0 with
          | true =>
            have h2 := (beq_iff j).1 hc
            rw [if_neg (by omega)]
          | false =>
            have h2 : ¬ j % 2 = 0 := fun h => by rw [(beq_iff j).2 h] at hc; cases hc
            simp only [ih (i / 2) (j / 2) v (by omega)]
            by_cases e : i = j
            · subst e; simp
            · rw [if_neg (by omega), if_neg (by omega)]

theorem get_set (t : Tr α) : ∀ (i j : Nat) (v : α), (t.set i v).get j = if i = j then some v else t.get j := by
  induction t with
  | e => intro i j v; simp only [set, get_sing i i j v (Nat.le_refl _), get_e]
  | n l x r ihl ihr =>
    intro i j v
    cases i with
    | zero => cases j <;> simp [set, get]
    | succ i =>
      cases hb : Nat.beq (i % 2) 0 with
      | true =>
        have h1 := (beq_iff i).1 hb
        cases j with
        | zero => simp [set, hb, get]
        | succ j =>
          simp only [set, hb, get]
          cases hc : Nat.beq (j % 2) 0 with
          | true =>
            have h2 := (beq_iff j).1 hc
            simp only [ihl]
            by_cases e : i = j
            · subst e; simp
            · rw [if_neg (by omega), if_neg (by omega)]
          | false =>
            have h2 : ¬ j % 2 = 0 := fun h => by rw [(beq_iff j).2 h] at hc; cases hc
            rw [if_neg (by omega)]
      | false =>
        have h1 : ¬ i % 2 = 0 := fun h => by rw [(beq_iff i).2 h] at hb; cases hb
        cases j with
        | zero => simp [set, hb, get]
        | succ j =>
          simp only [set, hb, get]
          cases hc : Nat.beq (j % 2) 0 with
          | true =>
            have h2 := (beq_iff j).1 hc
            rw [if_neg (by omega)]
          | false =>
            have h2 : ¬ j % 2 = 0 := fun h => by rw [(beq_iff j).2 h] at hc; cases hc
            simp only [ihr]
            by_cases e : i = j
            · subst e; simp
            · rw [if_neg (by omega), if_neg (by omega)]

theorem get_del (t : Tr α) : ∀ (i j : Nat), (t.del i).get j = if i = j then none else t.get j := by
  induction t with
  | e => intro i j; simp [del]
  | n l x r ihl ihr =>
    intro i j
    cases i with
    | zero => cases j <;> simp [del, get]
    | succ i =>
      cases hb : Nat.beq (i % 2) 0 with
      | true =>
        have h1 := (beq_iff i).1 hb
        cases j with
        | zero => simp [del, hb, get]
        | succ j =>
          simp only [del, hb, get]
          cases hc : Nat.beq (j % 2) 0 with
          | true =>
            have h2 := (beq_iff j).1 hc
            simp only [ihl]
            by_cases e : i = j
            · subst e; simp
            · rw [if_neg (by omega), if_neg (by omega)]
          | false =>
            have h2 : ¬ j % 2 = 0 := fun h => by rw [(beq_iff j).2 h] at hc; cases hc
            rw [if_neg (by omega)]
      | false =>
        have h1 : ¬ i % 2 = 0 := fun h => by rw [(beq_iff i).2 h] at hb; cases hb
        cases j with
        | zero => simp [del, hb, get]
        | succ j =>
          simp only [del, hb, get]
          cases hc : Nat.beq (j % 2) 0 with
          | true =>
            have h2 := (beq_iff j).1 hc
            rw [if_neg (by omega)]
          | false =>
            have h2 : ¬ j % 2 = 0 := fun h => by rw [(beq_iff j).2 h] at hc; cases hc
            simp only [ihr]
            by_cases e : i = j
            · subst e; simp
            · rw [if_neg (by omega), if_neg (by omega)]
end Tr

/-! ### Forcing words: each is its continuation at the same value; the kernel meets a value that is laid out -/
section force
variable {β : Type}
def fNat (n : Nat) (k : Nat → β) : β := match n with
  | 0 => k 0
  | m + 1 => k (m + 1)
@[simp] theorem fNat_eq (n : Nat) (k : Nat → β) : fNat n k = k n := by cases n <;> rfl
def fInt (n : Int) (k : Int → β) : β := match n with
  | .ofNat m => fNat m fun m => k (.ofNat m)
  | .negSucc m => fNat m fun m => k (.negSucc m)
@[simp] theorem fInt_eq (n : Int) (k : Int → β) : fInt n k = k n := by cases n <;> simp [fInt]
def fU8s : List UInt8 → (List UInt8 → β) → β
  | [], k => k []
  | u :: l, k => fNat u.toNat fun m => fU8s l fun l => k (UInt8.ofNat m :: l)
@[simp] theorem fU8s_eq (l : List UInt8) : ∀ k : List UInt8 → β, fU8s l k = k l := by
  induction l with
  | nil => intro k; rfl
  | cons u l ih => intro k; simp [fU8s, ih]
def fStr (s : ByteArray) (k : ByteArray → β) : β := fU8s s.data.toList fun l => k ⟨⟨l⟩⟩
@[simp] theorem fStr_eq (s : ByteArray) (k : ByteArray → β) : fStr s k = k s := by simp [fStr]
def fAddr (a : Addr) (k : Addr → β) : β := fNat a.block fun b => fNat a.off fun o => match a.spot with
  | none => k ⟨b, o, none⟩
  | some s => k ⟨b, o, some s⟩
@[simp] theorem fAddr_eq (a : Addr) (k : Addr → β) : fAddr a k = k a := by
  obtain ⟨b, o, s⟩ := a; cases s <;> simp [fAddr]
mutual
def fV : Value → (Value → β) → β
  | .bool true, k => k (.bool true)
  | .bool false, k => k (.bool false)
  | .int kd n, k => fInt n fun n => k (.int kd n)
  | .string s, k => fStr s fun s => k (.string s)
  | .pointer none, k => k (.pointer none)
  | .pointer (some a), k => fAddr a fun a => k (.pointer (some a))
  | .slice none l c, k => fNat l fun l => fNat c fun c => k (.slice none l c)
  | .slice (some a) l c, k => fAddr a fun a => fNat l fun l => fNat c fun c => k (.slice (some a) l c)
  | .func fn ⟨fs⟩ ⟨cs⟩, k => fVL fs fun fs => fVL cs fun cs => k (.func fn ⟨fs⟩ ⟨cs⟩)
  | .iface t v, k => fV v fun v => k (.iface t v)
  | .agg ⟨l⟩, k => fVL l fun l => k (.agg ⟨l⟩)
  | .tuple ⟨l⟩, k => fVL l fun l => k (.tuple ⟨l⟩)
  | .float a b, k => k (.float a b)
  | .complex a b c, k => k (.complex a b c)
  | .map r, k => k (.map r)
  | .chan r, k => k (.chan r)
  | .nilFunc, k => k .nilFunc
  | .nilIface, k => k .nilIface
def fVL : List Value → (List Value → β) → β
  | [], k => k []
  | v :: l, k => fV v fun v => fVL l fun l => k (v :: l)
end
mutual
theorem fV_eq : ∀ (v : Value) (k : Value → β), fV v k = k v
  | .bool true, k => by simp [fV]
  | .bool false, k => by simp [fV]
  | .int kd n, k => by simp [fV]
  | .string s, k => by simp [fV]
  | .pointer none, k => by simp [fV]
  | .pointer (some a), k => by simp [fV]
  | .slice none l c, k => by simp [fV]
  | .slice (some a) l c, k => by simp [fV]
  | .func fn ⟨fs⟩ ⟨cs⟩, k => by simp [fV, fVL_eq fs, fVL_eq cs]
  | .iface t v, k => by simp [fV, fV_eq v]
  | .agg ⟨l⟩, k => by simp [fV, fVL_eq l]
  | .tuple ⟨l⟩, k => by simp [fV, fVL_eq l]
  | .float a b, k => by simp [fV]
  | .complex a b c, k => by simp [fV]
  | .map r, k => by simp [fV]
  | .chan r, k => by simp [fV]
  | .nilFunc, k => by simp [fV]
  | .nilIface, k => by simp [fV]
theorem fVL_eq : ∀ (l : List Value) (k : List Value → β), fVL l k = k l
  | [], k => by simp [fVL]
  | v :: l, k => by simp [fVL, fV_eq v, fVL_eq l]
end
end force
end Go.Qe
end
section
set_option linter.unusedVariables false
set_option linter.unusedSimpArgs false
namespace Go.Qe

/-! ### Values without an address -/
def noYield : Fn → Bool
  | .yield _ => false
  | _ => true
mutual
def af : Value → Bool
  | .bool _ => true
  | .int _ _ => true
  | .float _ _ => true
  | .complex _ _ _ => true
  | .string _ => true
  | .pointer none => true
  | .pointer (some _) => false
  | .slice none l c => l == 0 && c == 0
  | .slice (some _) _ _ => false
  | .map none => true
  | .map (some _) => false
  | .chan _ => false
  | .func fn ⟨fs⟩ ⟨cs⟩ => noYield fn && afL fs && afL cs
  | .nilFunc => true
  | .iface _ v => af v
  | .nilIface => true
  | .agg ⟨l⟩ => afL l
  | .tuple ⟨l⟩ => afL l
def afL : List Value → Bool
  | [] => true
  | v :: l => af v && afL l
end

mutual
def vbeq : Value → Value → Bool
  | .bool a, .bool b => a == b
  | .int k a, .int j b => k == j && a == b
  | .float k a, .float j b => k == j && a == b
  | .complex k a b, .complex j c d => k == j && a == c && b == d
  | .string a, .string b => a.data.toList == b.data.toList
  | .pointer a, .pointer b => a == b
  | .slice a l c, .slice b m d => a == b && l == m && c == d
  | .map a, .map b => a == b
  | .chan a, .chan b => a == b
  | .func fn ⟨fs⟩ ⟨cs⟩, .func gn ⟨gs⟩ ⟨ds⟩ => fn == gn && vbeqL fs gs && vbeqL cs ds
  | .nilFunc, .nilFunc => true
  | .iface t v, .iface s w => t == s && vbeq v w
  | .nilIface, .nilIface => true
  | .agg ⟨l⟩, .agg ⟨m⟩ => vbeqL l m
  | .tuple ⟨l⟩, .tuple ⟨m⟩ => vbeqL l m
  | _, _ => false
def vbeqL : List Value → List Value → Bool
  | [], [] => true
  | v :: l, w :: m => vbeq v w && vbeqL l m
  | _, _ => false
end

/-- The value of one cell. -/
def oc : Value → Bool
  | .agg _ => false
  | .tuple _ => false
  | .chan none => false
  | _ => true
def noChan : Value → Bool
  | .chan none => false
  | _ => true

/-! ### Objects -/
structure CLoop where
  state : LoopState
  pending : Option Code
  fn : FuncId
  nt : Nat
  tm : Tr Value
  params : Array Tmp
  assign : Code
  body : Code
  defers : Nat
inductive CObj where
  /-- m = 0: a row that may have spare room behind it; 1: a variable of its own, all of it; 2: read only. -/
  | cells (m : Nat) (elem : TypeId) (cs : List Value)
  | iter (s : ByteArray) (pos : Nat)
  /-- A map: its entries, each a tuple of the key, the value and the number that it was born with; the clock. -/
  | map (es : List Value) (clock : Nat)
  | miter (m : Option Nat) (since : Nat) (seen : List Nat) (stepped : Nat)
  | loop (l : CLoop)
  | defd (ds : Option (List Deferred))
abbrev Heap := Tr CObj
/-- The panic of the frame above, where this frame is a deferred one: its value, and whether it has been recovered. -/
abbrev U := Option (Value × Bool)

def obeq : Option CObj → Option CObj → Bool
  | none, none => true
  | some (.cells m e cs), some (.cells m' e' cs') => m == m' && e == e' && vbeqL cs cs'
  | some (.map es k), some (.map es' k') => k == k' && vbeqL es es'
  | _, _ => false

/-! ### The model's own pure pieces -/
def prun {α : Type} (P : Program) : Sem α → Option α
  | .pure a => some a
  | .program k => prun P (k P)
  | .mark _ k => prun P k
  | _ => none

/-! ### Maps -/
def ment (k v : Value) (n : Nat) : Value := .tuple ⟨[k, v, .int .i64 n]⟩
def ekey : Value → Value
  | .tuple ⟨k :: _⟩ => k
  | _ => undef
def evalue : Value → Value
  | .tuple ⟨_ :: v :: _⟩ => v
  | _ => undef
def eborn : Value → Nat
  | .tuple ⟨[_, _, .int _ n]⟩ => n.toNat
  | _ => 0
def blank (es : List Value) : List MapEntry := es.map fun e => ⟨ekey e, undef, 0⟩
/-- Where a key stands among the entries. -/
def findAt (P : Program) (kt : TypeId) (k : Value) (es : List Value) : Option (Option Nat) :=
  match prun P (Instr.findKey kt k (blank es)) with
  | some (some (i, _)) => some (some i)
  | some none => some none
  | none => none
def bornAt (n : Int) : List Value → Nat → Option Nat
  | [], _ => none
  | e :: es, i => match decide ((eborn e : Int) = n) with
    | true => some i
    | false => bornAt n es (i + 1)

def ptr (b o : Nat) : Value := .pointer (some ⟨b, o, none⟩)

structure LR where
  v : Value
  ob : Option CObj
  rd : List Nat

def okV : Option Value → Option LR
  | some v => match af v with
    | true => some ⟨v, none, []⟩
    | false => none
  | none => none

def isAggT (P : Program) (t : TypeId) : Option Bool := match P.underlying t with
  | some (.struct _) => some true
  | some (.array _ _) => some true
  | some _ => some false
  | none => none
def sizeT (P : Program) (t : TypeId) : Option Nat := (P.info? t).map (·.size)
def zeroT (P : Program) (t : TypeId) : Option Value := match P.info? t with
  | some i => match i.zero with
    | some z => match af z with
      | true => some z
      | false => none
    | none => none
  | none => none

/-- The value of a variable of type t that lies at o among the cells. -/
def readAt (P : Program) (t : TypeId) (cs : List Value) (o : Nat) : Option Value := match isAggT P t, sizeT P t with
  | some true, some n => match Nat.ble (o + n) cs.length with
    | true => some (.agg ⟨(cs.drop o).take n⟩)
    | false => none
  | some false, some _ => cs[o]?
  | _, _ => none

def bytesOf : List Value → Option (List UInt8)
  | [] => some []
  | .int .u8 n :: l => match bytesOf l with
    | some r => some (UInt8.ofNat n.toNat :: r)
    | none => none
  | _ :: _ => none

def zeros (z : Array Value) (n : Nat) : List Value := (List.range n).map fun j => z[j % z.size]!

def isU8 (P : Program) (e : TypeId) : Bool := match P.underlying e with
  | some (.int .u8) => true
  | _ => false

def nilEq (P : Program) (t : TypeId) (x y : Value) : Option Bool :=
  match P.underlying t, x, y with
  | some (.pointer el), .pointer (some ⟨b, o, none⟩), .pointer (some ⟨b', o', none⟩) => match Nat.beq b b', sizeT P el with
    | true, some (_ + 1) => some (Nat.beq o o')
    | _, _ => none
  | some (.pointer _), .pointer (some _), .pointer none => some false
  | some (.pointer _), .pointer none, .pointer (some _) => some false
  | some (.slice _), .slice (some _) _ _, .slice none _ _ => some false
  | some (.slice _), .slice none _ _, .slice (some _) _ _ => some false
  | some (.func _ _ _), .func _ _ _, .nilFunc => some false
  | some (.func _ _ _), .nilFunc, .func _ _ _ => some false
  | some (.interface _), .iface _ _, .nilIface => some false
  | some (.interface _), .nilIface, .iface _ _ => some false
  | _, _, _ => none
def opBinNil (P : Program) (op : BinOp) (t : TypeId) (x y : Value) : Option Value :=
  match op, nilEq P t x y with
  | .eql, some b => some (.bool b)
  | .neq, some b => some (.bool (!b))
  | _, _ => none

def bnd (ev : Operand → Value) (x : Option Operand) (z : Nat) : Option Nat := match x with
  | none => some z
  | some l => match ev l with
    | .int _ i => match decide (0 ≤ i) with
      | true => some i.toNat
      | false => none
    | _ => none

/-- An operation that makes no call, writes nothing and can't end the frame. -/
def lop (P : Program) (c : Nat) (getO : Nat → Option CObj) (ev : Operand → Value) (o : Oper) : Option LR :=
  match o.op with
  | .move x => some ⟨ev x, none, []⟩
  | .assign x => some ⟨ev x, none, []⟩
  | .pick q a b => match ev q with
    | .bool true => some ⟨ev a, none, []⟩
    | .bool false => some ⟨ev b, none, []⟩
    | _ => none
  | .alloc t => match zeroT P t with
    | some z => some ⟨ptr c 0, some (.cells 1 t z.cells.toList), []⟩
    | none => none
  | .box t x => match noChan (ev x) with
    | true => some ⟨ptr c 0, some (.cells 1 t (ev x).cells.toList), []⟩
    | false => none
  | .build t parts => match parts.all (fun (_, x) => noChan (ev x)), zeroT P t with
    | true, some _ => match prun P (Instr.build t (parts.map fun (i, x) => (i, ev x))) with
      | some v => some ⟨v, none, []⟩
      | none => none
    | _, _ => none
  | .buildSlice t len parts => match P.underlying t, parts.all (fun (_, x) => noChan (ev x)) with
    | some (.slice el), true => match sizeT P el, zeroT P el with
      | some sz, some z => match Nat.ble (len * sz) 100000, Nat.beq z.cells.size sz with
        | true, true => match Instr.fill (fun i => some (i * sz, sz)) ⟨zeros z.cells (len * sz)⟩ (parts.map fun (i, x) => (i, ev x)).toList with
          | some cs => some ⟨.slice (some ⟨c, 0, none⟩) len 0, some (.cells 0 el cs.toList), []⟩
          | none => none
        | _, _ => none
      | _, _ => none
    | _, _ => none
  | .load t a => match ev a with
    | .pointer (some ⟨b, off, none⟩) => match getO b with
      | some (.cells _ _ cs) => match readAt P t cs off with
        | some v => some ⟨v, none, [b]⟩
        | none => none
      | _ => none
    | _ => none
  | .nilCheck x => match ev x with
    | .pointer (some a) => some ⟨.pointer (some a), none, []⟩
    | .func (.func f) a b => some ⟨.func (.func f) a b, none, []⟩
    | _ => none
  | .binOp op t x y _ => match af (ev x) && af (ev y) with
    | true => okV (prun P (do eqGuard op t x y (ev x) (ev y); binOp op t (ev x) (ev y)))
    | false => match opBinNil P op t (ev x) (ev y) with
      | some v => some ⟨v, none, []⟩
      | none => none
  | .unOp op _ x => match af (ev x) with
    | true => okV (prun P (Op.unary op (ev x)))
    | false => none
  | .convert src dst x => match ev x with
    | .slice (some ⟨b, off, none⟩) len _ => match P.underlying src, P.underlying dst with
      | some (.slice e), some .string => match isU8 P e, getO b with
        | true, some (.cells _ _ cs) => match Nat.ble (off + len) cs.length with
          | true => match bytesOf ((cs.drop off).take len) with
            | some bs => some ⟨.string ⟨⟨bs⟩⟩, none, [b]⟩
            | none => none
          | false => none
        | _, _ => none
      | _, _ => none
    | .string s => match P.underlying src, P.underlying dst with
      | some .string, some (.slice e) => match isU8 P e && Nat.beq (P.cellsOf e) 1 with
        | true => some ⟨.slice (some ⟨c, 0, none⟩) s.size 0, some (.cells 0 e (s.data.toList.map fun b => .int .u8 b.toNat)), []⟩
        | false => none
      | some .string, some .string => some ⟨.string s, none, []⟩
      | _, _ => none
    | .pointer (some ⟨b, off, none⟩) => match P.underlying src, P.underlying dst, getO b with
      | some (.pointer t), some .unsafePointer, some (.cells _ _ cs) => match sizeT P t, Nat.blt off cs.length with
        | some (_ + 1), true => some ⟨ptr b off, none, [b]⟩
        | _, _ => none
      | some .unsafePointer, some (.pointer t), some (.cells 1 e cs) => match sizeT P t, liesAt P P.depth e (cs.length / P.cellsOf e) off t 1 with
        | some (_ + 1), true => some ⟨ptr b off, none, [b]⟩
        | _, _ => none
      | _, _, _ => none
    | v => match af v with
      | true => okV (prun P (convert src dst v))
      | false => none
  | .makeInterface t x => match P.underlying t with
    | some (.interface _) => none
    | some _ => some ⟨.iface t (ev x), none, []⟩
    | none => none
  | .makeFunc fn first captured => match noYield fn with
    | true => some ⟨.func fn (first.map ev) (captured.map ev), none, []⟩
    | false => none
  | .makeSlice t l cp => match P.underlying t, ev l, vbeq (ev l) (ev cp) with
    | some (.slice el), .int .i64 n, true => match sizeT P el, zeroT P el, P.info? el with
      | some sz, some z, some i => match decide (0 ≤ n) && Nat.ble (n.toNat * (sz + i.bytes + 1)) 100000 && Nat.beq z.cells.size sz with
        | true => some ⟨.slice (some ⟨c, 0, none⟩) n.toNat 0, some (.cells 0 el (zeros z.cells (n.toNat * sz))), []⟩
        | false => none
      | _, _, _ => none
    | _, _, _ => none
  | .slice t x lo hi mx => match mx with
    | some _ => none
    | none => match ev x with
      | .string s => match af ((lo.map ev).getD .nilIface) && af ((hi.map ev).getD .nilIface) with
        | true => match P.underlying t with
          | some .string => okV (prun P (Instr.slice t (.string s) (lo.map ev) (hi.map ev) none))
          | _ => none
        | false => none
      | .slice (some ⟨b, off, none⟩) len _ => match P.underlying t, getO b with
        | some (.slice el), some (.cells _ e _) => match sizeT P el, bnd ev lo 0, bnd ev hi len with
          | some sz, some l, some g => match Nat.ble l g && Nat.ble g len && Nat.beq (P.cellsOf e) sz with
            | true => some ⟨.slice (some ⟨b, off + l * sz, none⟩) (g - l) 0, none, [b]⟩
            | false => none
          | _, _, _ => none
        | _, _ => none
      | .slice none _ _ => match lo.all (fun l => vbeq (ev l) (.int .i64 0)) && hi.all (fun g => vbeq (ev g) (.int .i64 0)) with
        | true => match P.underlying t with
          | some (.slice el) => match sizeT P el with
            | some _ => some ⟨.slice none 0 0, none, []⟩
            | none => none
          | _ => none
        | false => none
      | _ => none
  | .fieldAddr s x f => match ev x with
    | .pointer (some ⟨b, off, none⟩) => match P.underlying s with
      | some (.struct fs) => match fs[f]? with
        | some fd => match sizeT P fd.type with
          | some (_ + 1) => some ⟨ptr b (off + fd.offset), none, []⟩
          | _ => none
        | none => none
      | _ => none
    | _ => none
  | .field t x f => match af (ev x) with
    | true => okV (prun P (Instr.field t (ev x) f))
    | false => none
  | .indexAddr t x ix => match ev ix with
    | .int _ i => match decide (0 ≤ i) with
      | true => match P.underlying t, ev x with
        | some (.slice el), .slice (some ⟨b, off, none⟩) len _ => match sizeT P el, Nat.blt i.toNat len with
          | some sz, true => some ⟨ptr b (off + i.toNat * sz), none, []⟩
          | _, _ => none
        | some (.array len el), .pointer (some ⟨b, off, none⟩) => match sizeT P el, Nat.blt i.toNat len with
          | some sz, true => some ⟨ptr b (off + i.toNat * sz), none, []⟩
          | _, _ => none
        | _, _ => none
      | false => none
    | _ => none
  | .index t x ix => match af (ev x) && af (ev ix) with
    | true => okV (prun P (Instr.index t (ev x) (ev ix)))
    | false => none
  | .extract x i => match ev x with
    | .tuple vs => match vs[i]? with
      | some v => some ⟨v, none, []⟩
      | none => none
    | _ => none
  | .range t x => match P.underlying t, ev x with
    | some .string, .string s => some ⟨ptr c 0, some (.iter s 0), []⟩
    | some (.map _ _), .map none => some ⟨ptr c 0, some (.miter none 0 [] 0), []⟩
    | some (.map _ _), .map (some b) => match getO b with
      | some (.map _ clock) => some ⟨ptr c 0, some (.miter (some b) clock [] clock), [b]⟩
      | _ => none
    | _, _ => none
  | .makeMap t r => match r with
    | none => some ⟨.map (some c), some (.map [] 0), []⟩
    | some x => match P.underlying t, ev x with
      | some (.map _ _), .int _ _ => some ⟨.map (some c), some (.map [] 0), []⟩
      | _, _ => none
  | .lookup t x k ok => match P.underlying t, af (ev k) with
    | some (.map kt el), true => match (match ev x with
        | .map none => some ([], [])
        | .map (some b) => match getO b with
          | some (.map es _) => some (es, [b])
          | _ => none
        | _ => none) with
      | some (es, rd) => match prun P (Instr.checkKey es.isEmpty 10000 kt (ev k)), findAt P kt (ev k) es with
        | some _, some (some i) => match es[i]? with
          | some e => some ⟨if ok then .tuple ⟨[evalue e, .bool true]⟩ else evalue e, none, rd⟩
          | none => none
        | some _, some none => match zeroT P el with
          | some z => some ⟨if ok then .tuple ⟨[z, .bool false]⟩ else z, none, rd⟩
          | none => none
        | _, _ => none
      | none => none
    | _, _ => none
  | .typeAssert x _ at_ ok => match ev x with
    | .iface t v => match P.underlying at_ with
      | some (.interface _) => none
      | some _ => match Nat.beq t at_, ok, zeroT P at_ with
        | true, true, _ => some ⟨.tuple ⟨[v, .bool true]⟩, none, []⟩
        | true, false, _ => some ⟨v, none, []⟩
        | false, true, some z => some ⟨.tuple ⟨[z, .bool false]⟩, none, []⟩
        | _, _, _ => none
      | none => none
    | _ => none
  | .call { callee := .builtin b, args := args, argTypes := ts } => match b with
    | .len => match args.toList.map ev with
      | [.string s] => match (ts[0]?).bind P.underlying with
        | some .string => some ⟨.int .i64 s.size, none, []⟩
        | _ => none
      | [.slice a n cp] => match (ts[0]?).bind P.underlying with
        | some (.slice _) => some ⟨.int .i64 n, none, []⟩
        | _ => none
      | [.map m] => match (ts[0]?).bind P.underlying, m with
        | some (.map _ _), none => some ⟨.int .i64 0, none, []⟩
        | some (.map _ _), some b => match getO b with
          | some (.map es _) => some ⟨.int .i64 es.length, none, [b]⟩
          | _ => none
        | _, _ => none
      | _ => none
    | .unsafeSliceData => match args.toList.map ev with
      | [.slice none _ _] => some ⟨.pointer none, none, []⟩
      | [.slice (some a) (_ + 1) _] => some ⟨.pointer (some a), none, []⟩
      | _ => none
    | .max => match afL (args.toList.map ev) with
      | true => okV (prun P (Builtin.max_ ts o.type (args.map ev)))
      | false => none
    | .min => match afL (args.toList.map ev) with
      | true => okV (prun P (Builtin.min_ ts o.type (args.map ev)))
      | false => none
    | _ => none
  | _ => none

/-! ### Heavier operations -/
inductive Rq where
  | fn (f : Nat) (args : List Value)
  | rnd (l : Nat) (args : List Value)
  | dfd (f : Nat) (args : List Value) (u : U)
inductive Ot where
  | ret (v : Value) (u : U)
  | pan (v : Value)
abbrev Handler := Rq → Nat → Heap → Option (Ot × Nat × Heap)

inductive XR where
  | val (v : Value) (c : Nat) (h : Heap) (u : U)
  | pan (v : Value) (c : Nat) (h : Heap)
  | dfr (d : Deferred)

def setL : List Value → Nat → List Value → List Value
  | cs, _, [] => cs
  | cs, o, v :: l => setL (cs.set o v) (o + 1) l

/-- The cells that an append or a copy takes from its source. -/
def srcCells (getO : Nat → Option CObj) (size n : Nat) : Value → Option (List Value)
  | .slice (some ⟨b, off, none⟩) _ _ => match getO b with
    | some (.cells _ _ cs) => match Nat.ble (off + n * size) cs.length with
      | true => some ((cs.drop off).take (n * size))
      | false => none
    | _ => none
  | .slice none _ _ => some []
  | .string s => some ((s.data.toList.take n).map fun b => .int .u8 b.toNat)
  | _ => none
def lenV : Value → Option Nat
  | .slice _ n _ => some n
  | .string s => some s.size
  | _ => none

def invk (H : Handler) (fn : Fn) (args cap : List Value) (c : Nat) (h : Heap) : Option XR :=
  match (match fn with
    | .func f => H (.fn f (args ++ cap)) c h
    | .yield l => H (.rnd l args) c h
    | _ => none) with
  | some (.ret v none, c, h) => some (.val v c h none)
  | some (.pan v, c, h) => some (.pan v c h)
  | _ => none

def hop (P : Program) (H : Handler) (idf : Nat → Bool) (c : Nat) (h : Heap) (u : U) (dk : Bool) (ev : Operand → Value) (o : Oper) : Option XR :=
  match o.op with
  | .store t a x => match ev a with
    | .pointer (some ⟨b, off, none⟩) => match h.get b with
      | some (.cells m e cs) => match Nat.blt m 2, sizeT P t with
        | true, some n => match Nat.beq (ev x).cells.size n && Nat.ble (off + n) cs.length && (ev x).cells.toList.all oc && noChan (ev x) with
          | true => fV (.agg ⟨setL cs off (ev x).cells.toList⟩) fun
            | .agg ⟨cs⟩ => h.setK b (.cells m e cs) fun h => some (.val undef c h u)
            | _ => none
          | false => none
        | _, _ => none
      | _ => none
    | _ => none
  | .next it true => match ev it with
    | .pointer (some ⟨b, 0, none⟩) => match h.get b with
      | some (.iter s pos) => match Nat.blt pos s.size with
        | true => match Utf8.decode s pos with
          | (r, wd) => fNat (pos + wd) fun p => fNat r fun r => h.setK b (.iter s p) fun h => some (.val (.tuple ⟨[.bool true, .int .i64 pos, .int .i32 r]⟩) c h u)
        | false => some (.val (.tuple ⟨[.bool false]⟩) c h u)
      | _ => none
    | _ => none
  | .next it false => match ev it with
    | .pointer (some ⟨b, 0, none⟩) => match h.get b with
      | some (.miter none _ _ _) => some (.val (.tuple ⟨[.bool false]⟩) c h u)
      | some (.miter (some m) since seen last) => match h.get m with
        | some (.map es clock) => match !seen.isEmpty && !es.isEmpty && es.all (fun e => Nat.ble last (eborn e)) with
          | true => none
          | false => match es.filter fun e => !seen.contains (eborn e) with
            | [] => some (.val (.tuple ⟨[.bool false]⟩) c h u)
            | [e] => match Nat.blt (eborn e) since with
              | true => fNat (eborn e) fun n => h.setK b (.miter (some m) since (seen ++ [n]) clock) fun h => some (.val (.tuple ⟨[.bool true, ekey e, evalue e]⟩) c h u)
              | false => none
            | _ => none
        | _ => none
      | _ => none
    | _ => none
  | .mapUpdate t m k x => match P.underlying t, ev m, af (ev k) with
    | some (.map kt _), .map (some b), true => match h.get b with
      | some (.map es clock) => match prun P (Instr.checkKey false 10000 kt (ev k)), findAt P kt (ev k) es with
        | some _, some (some i) => match es[i]? with
          | some e => match prun P (Instr.keyThatStays (ekey e) (ev k)) with
            | some k' => fV (.agg ⟨es.set i (ment k' (ev x) (eborn e))⟩) fun
              | .agg ⟨es⟩ => h.setK b (.map es clock) fun h => some (.val undef c h u)
              | _ => none
            | none => none
          | none => none
        | some _, some none => fV (.agg ⟨es ++ [ment (ev k) (ev x) clock]⟩) fun
          | .agg ⟨es⟩ => fNat (clock + 1) fun clock => h.setK b (.map es clock) fun h => some (.val undef c h u)
          | _ => none
        | _, _ => none
      | _ => none
    | _, _, _ => none
  | .mapEntry t m k => match P.underlying t, ev m, af (ev k) with
    | some (.map kt el), .map (some b), true => match h.get b with
      | some (.map es clock) => match prun P (Instr.checkKey false 10000 kt (ev k)), findAt P kt (ev k) es with
        | some _, some (some i) => match es[i]? with
          | some e => match prun P (Instr.keyThatStays (ekey e) (ev k)) with
            | some k' => fV (.agg ⟨es.set i (ment k' (evalue e) (eborn e))⟩) fun
              | .agg ⟨es⟩ => h.setK b (.map es clock) fun h => some (.val (.tuple ⟨[evalue e, .int .i64 (eborn e)]⟩) c h u)
              | _ => none
            | none => none
          | none => none
        | some _, some none => match zeroT P el with
          | some z => fV (.agg ⟨es ++ [ment (ev k) z clock]⟩) fun
            | .agg ⟨es⟩ => fNat (clock + 1) fun clock' => h.setK b (.map es clock') fun h => some (.val (.tuple ⟨[z, .int .i64 clock]⟩) c h u)
            | _ => none
          | none => none
        | _, _ => none
      | _ => none
    | _, _, _ => none
  | .entryStore _ m s x => match ev m, ev s with
    | .map (some b), .int _ n => match h.get b with
      | some (.map es clock) => match bornAt n es 0 with
        | some i => match es[i]? with
          | some e => fV (.agg ⟨es.set i (ment (ekey e) (ev x) (eborn e))⟩) fun
            | .agg ⟨es⟩ => h.setK b (.map es clock) fun h => some (.val undef c h u)
            | _ => none
          | none => none
        | none => none
      | _ => none
    | _, _ => none
  | .call { callee := .builtin .delete, args := args, argTypes := ts } => match args.toList.map ev, (ts[0]?).bind P.underlying with
    | [.map m, k], some (.map kt _) => match af k with
      | false => none
      | true => match m with
        | none => match prun P (Instr.checkKey true 10000 kt k) with
          | some _ => some (.val (.tuple ⟨[]⟩) c h u)
          | none => none
        | some b => match h.get b with
          | some (.map es clock) => match prun P (Instr.checkKey es.isEmpty 10000 kt k), findAt P kt k es with
            | some _, some (some i) => fV (.agg ⟨es.eraseIdx i⟩) fun
              | .agg ⟨es⟩ => h.setK b (.map es clock) fun h => some (.val (.tuple ⟨[]⟩) c h u)
              | _ => none
            | some _, some none => some (.val (.tuple ⟨[]⟩) c h u)
            | _, _ => none
          | _ => none
    | _, _ => none
  | .call { callee := .builtin .clear, args := args, argTypes := ts } => match args.toList.map ev, (ts[0]?).bind P.underlying with
    | [.map m], some (.map _ _) => match m with
      | none => some (.val (.tuple ⟨[]⟩) c h u)
      | some b => match h.get b with
        | some (.map _ clock) => h.setK b (.map [] clock) fun h => some (.val (.tuple ⟨[]⟩) c h u)
        | _ => none
    | _, _ => none
  | .panic x => match ev x with
    | .iface t v => some (.pan (.iface t v) c h)
    | _ => none
  | .defer { callee := .value f, args := args, argTypes := _ } => match ev f with
    | .func fn first cap => match noYield fn with
      | true => some (.dfr { target := .fn fn cap, args := first ++ args.map ev })
      | false => none
    | _ => none
  | .call { callee := .value f, args := args, argTypes := _ } => match ev f with
    | .func fn first cap => match (match fn with
        | .func g => match idf g, first.toList ++ args.toList.map ev, cap.toList with
          | true, [x], [] => some x
          | _, _, _ => none
        | _ => none) with
      | some x => some (.val x c h u)
      | none => match invk H fn (first.toList ++ args.toList.map ev) cap.toList c h with
      | some (.val v c h _) => some (.val v c h u)
      | r => r
    | _ => none
  | .call { callee := .builtin .append, args := args, argTypes := ts } => match args.toList.map ev, (ts[0]?).bind P.underlying with
    | [s, x], some (.slice el) => match sizeT P el, P.info? el, zeroT P el, lenV x, (match (ts[1]?).bind P.underlying with
        | some (.slice _) => true
        | some .string => true
        | _ => false) with
      | some sz, some i, some z, some n, true => match srcCells h.get sz n x, Nat.ble i.bytes 65536, Nat.beq z.cells.size sz with
        | some new, true, true => match new.all oc && Nat.beq new.length (n * sz) with
         | false => none
         | true => match s with
          | .slice none _ _ => match n with
            | 0 => some (.val (.slice none 0 0) c h u)
            | n + 1 => match Nat.ble ((n + 1) * (i.bytes + 1)) 1073741824 with
              | true => fV (.agg ⟨new⟩) fun
                | .agg ⟨new⟩ => fNat (c + 1) fun c' => h.setK c (.cells 0 el new) fun h => some (.val (.slice (some ⟨c, 0, none⟩) (n + 1) 0) c' h u)
                | _ => none
              | false => none
          | .slice (some ⟨b, off, none⟩) len _ => match h.get b with
            | some (.cells 0 e cs) => match Nat.beq e el && Nat.ble (off + len * sz) cs.length && Nat.ble ((len + n) * (i.bytes + 1)) 1073741824 with
              | true => fV (.agg ⟨(cs.drop off).take (len * sz) ++ new⟩) fun
                | .agg ⟨new⟩ => fNat (c + 1) fun c' => h.delK b fun h => h.setK c (.cells 0 el new) fun h => fNat (len + n) fun ln => some (.val (.slice (some ⟨c, 0, none⟩) ln 0) c' h u)
                | _ => none
              | false => none
            | _ => none
          | _ => none
        | _, _, _ => none
      | _, _, _, _, _ => none
    | _, _ => none
  | .call { callee := .builtin .copy, args := args, argTypes := ts } => match args.toList.map ev, (ts[0]?).bind P.underlying with
    | [.slice (some ⟨b, off, none⟩) len _, x], some (.slice el) => match sizeT P el, lenV x with
      | some sz, some m => match srcCells h.get sz (Nat.min m len) x, h.get b with
        | some new, some (.cells 0 e cs) => match Nat.ble (off + Nat.min m len * sz) cs.length with
          | true => match new.all oc && Nat.beq new.length (Nat.min m len * sz) with
           | false => none
           | true => fV (.agg ⟨setL cs off new⟩) fun
            | .agg ⟨cs⟩ => h.setK b (.cells 0 e cs) fun h => some (.val (.int .i64 (Nat.min m len)) c h u)
            | _ => none
          | false => none
        | _, _ => none
      | _, _ => none
    | _, _ => none
  | .call { callee := .builtin .unsafeString, args := args, argTypes := ts } => match args.toList.map ev, (ts[0]?).bind P.underlying with
    | [.pointer a, .int _ n], some (.pointer t) => match n, a with
      | .ofNat 0, _ => some (.val (.string ⟨#[]⟩) c h u)
      | .ofNat n, some ⟨b, off, none⟩ => match h.get b with
        | some (.cells 0 e cs) => match Nat.ble (off + n) cs.length && Nat.beq e t && isU8 P e && Nat.beq (P.cellsOf e) 1 && Nat.ble n 1073741824 with
          | true => match bytesOf ((cs.drop off).take n) with
            | some bs => fU8s bs fun bs => h.setK b (.cells 2 e cs) fun h => some (.val (.string ⟨⟨bs⟩⟩) c h u)
            | none => none
          | false => none
        | _ => none
      | _, _ => none
    | _, _ => none
  | .call { callee := .builtin .recover, args := _, argTypes := _ } => match dk with
    | true => match u with
      | some (v, false) => some (.val v c h (some (v, true)))
      | _ => some (.val .nilIface c h u)
    | false => none
  | _ => none

/-! ### Calls that have been run before -/
/-- A call with its number on the heap: what of the heap it needs, what it hands back, what of the heap is left. -/
structure Memo where
  args : List Value
  c : Nat
  pre : List (Nat × CObj)
  ot : Ot
  c' : Nat
  post : List (Nat × CObj)
def delAll {β : Type} : List (Nat × CObj) → Heap → (Heap → β) → β
  | [], h, k => k h
  | (id, _) :: l, h, k => h.delK id fun h => delAll l h k
def putAll {β : Type} : List (Nat × CObj) → Heap → (Heap → β) → β
  | [], h, k => k h
  | (id, o) :: l, h, k => h.setK id o fun h => putAll l h k
def memoL : List Memo → List Value → Nat → Heap → Option (Ot × Nat × Heap)
  | [], _, _, _ => none
  | m :: l, args, c, h => match Nat.beq m.c c with
    | false => memoL l args c h
    | true => match vbeqL m.args args && m.pre.all (fun (id, o) => obeq (h.get id) (some o)) with
      | false => memoL l args c h
      | true => delAll m.pre h fun h => putAll m.post h fun h => some (m.ot, m.c', h)

/-! ### Frames -/
structure Env where
  memo : Tr (List Memo) := .e
  /-- Where a frame is to stop: at this region of this function. -/
  stop : Nat → Nat → Bool := fun _ _ => false
  P : Program
  fns : Tr Func
  orc : Nat → Option (List Value → Option Value)
  idf : Nat → Bool
  G : Nat

def opv (tm : Tr Value) : Operand → Value
  | .tmp t => match tm.get t with
    | some v => v
    | none => undef
  | .const v => v
  | .global g => ptr g 0
  | .func f => .func (.func f) #[] #[]

def okx (G : Nat) : Operand → Bool
  | .const v => af v
  | .global g => Nat.blt g G
  | _ => true
def okOp (G : Nat) (o : Oper) : Bool := o.op.operands.all (okx G)
def okOpD (G nt : Nat) (o : Oper) : Bool := okOp G o && (match o.dst with
  | some d => Nat.blt d nt
  | none => true)

def wantedC (ops : Array Oper) (tm : Tr Value) (o : Oper) : Option Bool := match o.guard with
  | none => some true
  | some (j, b) => match (ops[j]?).bind (·.dst) with
    | none => some false
    | some d => match tm.get d with
      | some (.bool x) => some (x == b)
      | some (.tuple ⟨[]⟩) => some false
      | none => some false
      | _ => none

def putK {β : Type} (nt : Nat) (tm : Tr Value) (dst : Option Nat) (v : Value) (k : Tr Value → β) : β := match dst with
  | none => k tm
  | some d => match Nat.blt d nt with
    | true => fV v fun v => tm.setK d v k
    | false => k tm

inductive OR where
  | go (tm : Tr Value) (df : List Deferred) (c : Nat) (h : Heap) (u : U)
  | pan (v : Value) (tm : Tr Value) (df : List Deferred) (c : Nat) (h : Heap) (u : U)

/-- The operations of a region in the order of the text. -/
def runOps (E : Env) (H : Handler) (rd dk : Bool) (nt : Nat) (ops : Array Oper) : List Oper → Tr Value → List Deferred → Nat → Heap → U → Option OR
  | [], tm, df, c, h, u => some (.go tm df c h u)
  | o :: l, tm, df, c, h, u => match okOp E.G o, wantedC ops tm o with
    | true, some false => putK nt tm o.dst undef fun tm => runOps E H rd dk nt ops l tm df c h u
    | true, some true => match lop E.P c h.get (opv tm) o with
      | some ⟨v, none, _⟩ => putK nt tm o.dst v fun tm => runOps E H rd dk nt ops l tm df c h u
      | some ⟨v, some ob, _⟩ => match ob with
        | .cells m e cs => fV (.agg ⟨cs⟩) fun
          | .agg ⟨cs⟩ => h.setK c (.cells m e cs) fun h => putK nt tm o.dst v fun tm => fNat (c + 1) fun c => runOps E H rd dk nt ops l tm df c h u
          | _ => none
        | ob => h.setK c ob fun h => putK nt tm o.dst v fun tm => fNat (c + 1) fun c => runOps E H rd dk nt ops l tm df c h u
      | none => match hop E.P H E.idf c h u dk (opv tm) o with
        | some (.val v c h u) => putK nt tm o.dst v fun tm => runOps E H rd dk nt ops l tm df c h u
        | some (.pan v c h) => some (.pan v tm df c h u)
        | some (.dfr d) => match rd with
          | true => none
          | false => putK nt tm o.dst undef fun tm => runOps E H rd dk nt ops l tm (d :: df) c h u
        | none => none
    | _, _ => none

/-! ### A region that draws its order -/
structure DS where
  tm : Tr Value
  c : Nat
  h : Heap
  u : U
  /-- new blocks that lie aside: the operation's number, the block's, the object -/
  pend : List (Nat × Nat × CObj)
  /-- what has been read: the operation's number, the blocks -/
  rds : List (Nat × List Nat × (Heap → Bool))
  /-- the heavy operations: the number, the heap ahead of it and behind it -/
  hvs : List (Nat × Heap × Heap)
  hm : Nat
  /-- a panic: the operation's number, the value, the heap behind it -/
  pn : Option (Nat × Value × Heap)

def pendGet : List (Nat × Nat × CObj) → Heap → Nat → Option CObj
  | [], h, b => h.get b
  | (_, id, ob) :: l, h, b => match Nat.beq id b with
    | true => some ob
    | false => pendGet l h b
def mergeP (bits : Nat) : List (Nat × Nat × CObj) → Heap → Heap × List (Nat × Nat × CObj)
  | [], h => (h, [])
  | (i, id, ob) :: l, h => match mergeP bits l h with
    | (h, r) => match bits.testBit i with
      | true => (h.set id ob, r)
      | false => (h, (i, id, ob) :: r)
def sameAt (rd : List Nat) (a b : Heap) : Bool := rd.all fun id => obeq (a.get id) (b.get id)

def namesOf (ops : Array Oper) (o : Oper) : List Nat := o.dst.toList ++ o.op.operands.toList.filterMap (fun | .tmp t => some t | _ => none) ++ (match o.guard with
    | some (j, _) => ((ops[j]?).bind (·.dst)).toList
    | none => [])

/-- Two operations that name one slot stand in one order. -/
def tmpsOk (ops : Array Oper) (b : Array Nat) : Bool :=
  ((List.range ops.size).all fun i => Nat.blt (b.getD i 0) (2 ^ i)) && (List.range ops.size).all fun j => (List.range ops.size).all fun i => i == j || match ops[i]?, ops[j]? with
    | some oi, some oj => match oi.dst with
      | some d => !(namesOf ops oj).contains d || (b.getD (max i j) 0).testBit (min i j)
      | none => true
    | _, _ => true

/-- Comes the light operation to the same over another heap? -/
def againOf (P : Program) (c : Nat) (ev : Operand → Value) (o : Oper) (v : Value) (ob : Option CObj) (rd : List Nat) (h : Heap) : Bool := match ob with
  | some _ => false
  | none => match lop P c h.get ev o with
    | some ⟨v', none, rd'⟩ => vbeq v v' && rd == rd'
    | _ => false

def drawOps (E : Env) (H : Handler) (dk : Bool) (nt : Nat) (ops : Array Oper) (B : Array Nat) : List Oper → Nat → DS → Option DS
  | [], _, s => some s
  | o :: l, i, s => match (match s.pn with
      | some (p, _, _) => (B.getD i 0).testBit p
      | none => false) with
    | true => drawOps E H dk nt ops B l (i + 1) s
    | false => match okOpD E.G nt o, wantedC ops s.tm o with
      | true, some false => putK nt s.tm o.dst undef fun tm => drawOps E H dk nt ops B l (i + 1) { s with tm }
      | true, some true =>
        match lop E.P s.c (pendGet s.pend s.h) (opv s.tm) o with
        | some ⟨v, ob, rd⟩ => match s.hvs.all (fun (k, a, b) => (B.getD i 0).testBit k || sameAt rd a b) with
          | true => putK nt s.tm o.dst v fun tm => match ob with
            | none => drawOps E H dk nt ops B l (i + 1) { s with tm, rds := (i, rd, againOf E.P s.c (opv s.tm) o v none rd) :: s.rds }
            | some ob => drawOps E H dk nt ops B l (i + 1) { s with tm, c := s.c + 1, pend := (i, s.c, ob) :: s.pend, rds := (i, rd, againOf E.P s.c (opv s.tm) o v (some ob) rd) :: s.rds }
          | false => none
        | none => match s.pn with
          | some _ => none
          | none => match mergeP (B.getD i 0) s.pend s.h with
            | (h, pend) => match Nat.beq (s.hm &&& B.getD i 0) s.hm with
              | true => match hop E.P H E.idf s.c h s.u dk (opv s.tm) o with
                | some (.val v c' h' u) => match s.rds.all (fun (j, rd, ag) => (B.getD i 0).testBit j || sameAt rd h h' || ag h') with
                  | true => putK nt s.tm o.dst v fun tm => drawOps E H dk nt ops B l (i + 1) { tm, c := c', h := h', u, pend, rds := s.rds, hvs := (i, h, h') :: s.hvs, hm := s.hm ||| 2 ^ i, pn := none }
                  | false => none
                | some (.pan v c' h') => drawOps E H dk nt ops B l (i + 1) { s with c := c', h := h, pend, pn := some (i, v, h') }
                | _ => none
              | false => none
      | _, _ => none

def mergeAll : List (Nat × Nat × CObj) → Heap → Heap
  | [], h => h
  | (_, id, ob) :: l, h => (mergeAll l h).set id ob

inductive BX where
  | ret
  | stop (todo : List Item)
  | pan (v : Value)
  | jump (j : Option Code)
structure BR where
  x : BX
  tm : Tr Value
  df : List Deferred
  c : Nat
  h : Heap
  u : U

/-- Where a loop over a function keeps its rounds' deferred calls: the block; the loop's own number; the mark among the frame's deferred calls. -/
def loopHome (ro : Option Nat) (c : Nat) (h : Heap) : Option (Nat × Heap × Nat × List Deferred) := match ro with
  | none => h.setK c (CObj.defd (some [])) fun h => some (c, h, c + 1, [{ target := .collected c, args := #[] }])
  | some l0 => match h.get l0 with
    | some (.loop r0) => some (r0.defers, h, c, [])
    | _ => none

/-- A frame, from what it has still to do on, till it leaves. 'dk': it is a deferred call's; 'ro': it is a round of that loop. -/
def body (E : Env) (H : Handler) (dk : Bool) (ro : Option Nat) (fn nt : Nat) : Nat → List Item → Tr Value → List Deferred → Nat → Heap → U → Option BR
  | 0, _, _, _, _, _, _ => none
  | n + 1, todo, tm, df, c, h, u => match todo with
    | [] => match ro with
      | none => some ⟨.ret, tm, df, c, h, u⟩
      | some _ => some ⟨.jump none, tm, df, c, h, u⟩
    | .code .ret :: _ => match ro with
      | none => some ⟨.ret, tm, df, c, h, u⟩
      | some _ => some ⟨.jump (some .ret), tm, df, c, h, u⟩
    | .code .skip :: k => body E H dk ro fn nt n k tm df c h u
    | .code (.label _) :: k => body E H dk ro fn nt n k tm df c h u
    | .inBlock _ :: k => body E H dk ro fn nt n k tm df c h u
    | .inScope _ :: k => body E H dk ro fn nt n k tm df c h u
    | .code (.seq a b) :: k => body E H dk ro fn nt n (.code a :: .code b :: k) tm df c h u
    | .code (.cond q a b) :: k => match okx E.G q, opv tm q with
      | true, .bool true => body E H dk ro fn nt n (.code a :: k) tm df c h u
      | true, .bool false => body E H dk ro fn nt n (.code b :: k) tm df c h u
      | _, _ => none
    | .code (.block id b) :: k => body E H dk ro fn nt n (.code b :: .inBlock id :: k) tm df c h u
    | .code (.loop b) :: k => body E H dk ro fn nt n (.code b :: .inLoop b :: k) tm df c h u
    | .inLoop b :: k => body E H dk ro fn nt n (.code b :: .inLoop b :: k) tm df c h u
    | .code (.scope b) :: k => body E H dk ro fn nt n (.code b :: .inScope b :: k) tm df c h u
    | .code (.exit id) :: k => match exitTo id k with
      | some k => body E H dk ro fn nt n k tm df c h u
      | none => match ro with
        | none => none
        | some _ => some ⟨.jump (some (.exit id)), tm, df, c, h, u⟩
    | .code (.goto l) :: k => match gotoIn l k with
      | some k => body E H dk ro fn nt n k tm df c h u
      | none => match ro with
        | none => none
        | some _ => some ⟨.jump (some (.goto l)), tm, df, c, h, u⟩
    | .code (.region id ops false) :: k => match E.stop fn id with
      | true => some ⟨.stop (.code (.region id ops false) :: k), tm, df, c, h, u⟩
      | false => match runOps E H ro.isSome dk nt ops ops.toList tm df c h u with
      | some (.go tm df c h u) => body E H dk ro fn nt n k tm df c h u
      | some (.pan v tm df c h u) => some ⟨.pan v, tm, df, c, h, u⟩
      | none => none
    | .code (.region _ ops true) :: k => match tmpsOk ops (Region.before ops) with
      | true => match drawOps E H dk nt ops (Region.before ops) ops.toList 0 { tm, c, h, u, pend := [], rds := [], hvs := [], hm := 0, pn := none } with
        | some s => match s.pn with
          | none => body E H dk ro fn nt n k s.tm df s.c (mergeAll s.pend s.h) s.u
          | some (_, v, h) => match df with
            | [] => some ⟨.pan v, .e, [], s.c, h, s.u⟩
            | _ => none
        | none => none
      | false => none
    | .beginRound :: k => match ro with
      | none => none
      | some l => match h.get l with
        | some (.loop r) => match r.state with
          | .ready => h.setK l (.loop { r with state := .busy }) fun h => body E H dk ro fn nt n k tm df c h u
          | _ => none
        | _ => none
    | .code (.rangeFunc f params assign b) :: k => match okx E.G f, opv tm f with
      | true, .func (.func g) first cap => match loopHome ro c h with
        | some (d, h, l, mark) => h.setK l (.loop { state := .ready, pending := none, fn, nt, tm, params, assign, body := b, defers := d }) fun h =>
            fNat (l + 1) fun c => match H (.fn g (first.toList ++ [Value.func (.yield l) #[] #[]] ++ cap.toList)) c h with
            | some (.ret _ _, c, h) => match h.get l with
              | some (.loop r) => match r.state with
                | .busy => none
                | _ => h.setK l (.loop { r with state := .exhausted }) fun h => body E H dk ro fn nt n ((r.pending.map Item.code).toList ++ k) tm (mark ++ df) c h u
              | _ => none
            | some (.pan v, c, h) => some ⟨.pan v, tm, mark ++ df, c, h, u⟩
            | none => none
        | none => none
      | _, _ => none
    | _ => none

def ofArgs : List Value → Nat → Tr Value → Tr Value
  | [], _, t => t
  | v :: l, i, t => ofArgs l (i + 1) (t.set i v)

/-- What a function hands back. -/
def resV (P : Program) (tm : Tr Value) (h : Heap) : List ResultVar → Option (List Value)
  | [] => some []
  | .tmp t :: l => match resV P tm h l with
    | some r => some (opv tm (.tmp t) :: r)
    | none => none
  | .cell a t :: l => match opv tm (.tmp a) with
    | .pointer (some ⟨b, off, none⟩) => match h.get b with
      | some (.cells _ _ cs) => match readAt P t cs off, resV P tm h l with
        | some v, some r => some (v :: r)
        | _, _ => none
      | _ => none
    | _ => none
def resOne : List Value → Value
  | [v] => v
  | l => .tuple ⟨l⟩

def settleU : U → U
  | some (_, true) => none
  | u => u

/-- The deferred calls of a frame that leaves. -/
def unw (H : Handler) : Nat → List Deferred → U → Nat → Heap → Option (U × Nat × Heap)
  | 0, _, _, _, _ => none
  | _ + 1, [], u, c, h => some (u, c, h)
  | n + 1, d :: ds, u, c, h => match d.target with
    | .collected b => match h.get b with
      | some (.defd (some l)) => h.setK b (.defd none) fun h => unw H n (l ++ ds) u c h
      | _ => none
    | .fn (.func g) cap => match H (.dfd g (d.args.toList ++ cap.toList) u) c h with
      | some (.ret _ u, c, h) => unw H n ds (settleU u) c h
      | _ => none
    | _ => none

def steps : Nat := 1000000

def callD (E : Env) : Nat → Handler
  | 0, _, _, _ => none
  | d + 1, .fn f args, c, h => match (match E.memo.get f with
      | none => none
      | some l => memoL l args c h) with
    | some r => some r
    | none => match E.orc f with
    | some g => match afL args, g args with
      | true, some v => match af v with
        | true => fV v fun v => some (.ret v none, c, h)
        | false => none
      | _, _ => none
    | none => match E.fns.get f with
      | none => none
      | some fn => match fn.body with
        | none => none
        | some b => match body E (callD E d) false none f (max fn.ntmps args.length) steps [.code b] (ofArgs args 0 .e) [] c h none with
          | some ⟨.ret, tm, df, c, h, _⟩ => match unw (callD E d) steps df none c h with
            | some (none, c, h) => match resV E.P tm h fn.results.toList with
              | some r => fV (resOne r) fun v => some (.ret v none, c, h)
              | none => none
            | _ => none
          | some ⟨.pan v, tm, df, c, h, _⟩ => match unw (callD E d) steps df (some (v, false)) c h with
            | some (none, c, h) => match resV E.P tm h fn.results.toList with
              | some r => fV (resOne r) fun v => some (.ret v none, c, h)
              | none => none
            | some (some (v, _), c, h) => some (.pan v, c, h)
            | none => none
          | _ => none
  | d + 1, .dfd f args u, c, h => match E.orc f with
    | some _ => none
    | none => match E.fns.get f with
      | none => none
      | some fn => match fn.body with
        | none => none
        | some b => match body E (callD E d) true none f (max fn.ntmps args.length) steps [.code b] (ofArgs args 0 .e) [] c h u with
          | some ⟨.ret, tm, [], c, h, u⟩ => match resV E.P tm h fn.results.toList with
            | some r => some (.ret (resOne r) u, c, h)
            | none => none
          | _ => none
  | d + 1, .rnd l args, c, h => match h.get l with
    | some (.loop r) => match Nat.beq args.length r.params.size with
      | true => match body E (callD E d) false (some l) r.fn r.nt steps [.code r.assign, .beginRound, .code r.body] ((r.params.toList.zip args).foldl (fun tm (t, a) => match Nat.blt t r.nt with
            | true => tm.set t a
            | false => tm) r.tm) [] c h none with
        | some ⟨.jump j, _, [], c, h, _⟩ => match h.get l with
          | some (.loop r) => h.setK l (.loop { r with state := if j.isNone then .ready else .done, pending := j }) fun h => some (.ret (.bool j.isNone) none, c, h)
          | _ => none
        | some ⟨.pan v, _, [], c, h, _⟩ => match E.fns.get r.fn with
          | some _ => some (.pan v, c, h)
          | none => none
        | _ => none
      | false => none
    | _ => none
end Go.Qe
end
section
set_option linter.unusedVariables false
set_option linter.unusedSimpArgs false
namespace Go.Qe

/-- Where an object lies: the block, the first cell, the cells of an element, the row's size. -/
structure Pl where
  β : Nat
  o : Nat
  es : Nat
  size : Nat
abbrev Phi := Nat → Option Pl
def Phi.le (φ φ' : Phi) : Prop := ∀ b r, φ b = some r → φ' b = some r
theorem Phi.le_refl (φ : Phi) : φ.le φ := fun _ _ h => h
theorem Phi.le_trans {a b c : Phi} (h : a.le b) (k : b.le c) : a.le c := fun _ _ e => k _ _ (h _ _ e)

mutual
inductive V (κ : Nat → Value) (φ : Phi) : Value → Value → Prop
  | af {v : Value} : af v = true → V κ φ v v
  | ptr {b o : Nat} {r : Pl} : φ b = some r → V κ φ (.pointer (some ⟨b, o, none⟩)) (.pointer (some ⟨r.β, r.o + o, none⟩))
  | sl {b o l o' cap : Nat} {r : Pl} : φ b = some r → (l ≠ 0 → o' = r.o + o) → l ≤ cap → o' + cap * r.es ≤ r.size →
      V κ φ (.slice (some ⟨b, o, none⟩) l 0) (.slice (some ⟨r.β, o', none⟩) l cap)
  | fn {f : Fn} {fs cs fs' cs' : List Value} : noYield f = true → VL κ φ fs fs' → VL κ φ cs cs' → V κ φ (.func f ⟨fs⟩ ⟨cs⟩) (.func f ⟨fs'⟩ ⟨cs'⟩)
  | yld {l : Nat} {r : Pl} : φ l = some r → V κ φ (.func (.yield l) ⟨[]⟩ ⟨[]⟩) (.func (.yield r.β) ⟨[]⟩ ⟨[]⟩)
  | mp {b : Nat} {r : Pl} : φ b = some r → V κ φ (.map (some b)) (.map (some r.β))
  | iface {t : TypeId} {v v' : Value} : V κ φ v v' → V κ φ (.iface t v) (.iface t v')
  | agg {l l' : List Value} : VL κ φ l l' → V κ φ (.agg ⟨l⟩) (.agg ⟨l'⟩)
  | tuple {l l' : List Value} : VL κ φ l l' → V κ φ (.tuple ⟨l⟩) (.tuple ⟨l'⟩)
  | opq (k : Nat) : (κ k).oneCell' = true → V κ φ (.chan (some k)) (κ k)
inductive VL (κ : Nat → Value) (φ : Phi) : List Value → List Value → Prop
  | nil : VL κ φ [] []
  | cons {v v' : Value} {l l' : List Value} : V κ φ v v' → VL κ φ l l' → VL κ φ (v :: l) (v' :: l')
end

section
variable {κ : Nat → Value} {φ φ' : Phi}

mutual
theorem V.mono (h : φ.le φ') : ∀ {v v' : Value}, V κ φ v v' → V κ φ' v v'
  | _, _, .af e => .af e
  | _, _, .ptr e => .ptr (h _ _ e)
  | _, _, .sl e a b c => .sl (h _ _ e) a b c
  | _, _, .fn a b c => .fn a (b.mono h) (c.mono h)
  | _, _, .yld a => .yld (h _ _ a)
  | _, _, .mp a => .mp (h _ _ a)
  | _, _, .iface a => .iface (a.mono h)
  | _, _, .agg a => .agg (a.mono h)
  | _, _, .tuple a => .tuple (a.mono h)
  | _, _, .opq k o => .opq k o
theorem VL.mono (h : φ.le φ') : ∀ {l l' : List Value}, VL κ φ l l' → VL κ φ' l l'
  | _, _, .nil => .nil
  | _, _, .cons a b => .cons (a.mono h) (b.mono h)
end

theorem VL.length {l l' : List Value} (h : VL κ φ l l') : l'.length = l.length := by
  induction l generalizing l' with
  | nil => cases h; rfl
  | cons v l ih => cases h with | cons a b => simp [ih b]

theorem VL.get {l l' : List Value} (h : VL κ φ l l') {i : Nat} {v : Value} (hi : l[i]? = some v) : ∃ v', l'[i]? = some v' ∧ V κ φ v v' := by
  induction l generalizing l' i with
  | nil => simp at hi
  | cons u l ih =>
    cases h with
    | cons a b =>
      cases i with
      | zero => simp at hi; subst hi; exact ⟨_, rfl, a⟩
      | succ i => simpa using ih b (by simpa using hi)

theorem VL.of_get {l l' : List Value} (hl : l'.length = l.length) (h : ∀ (i : Nat) (v v' : Value), l[i]? = some v → l'[i]? = some v' → V κ φ v v') : VL κ φ l l' := by
  induction l generalizing l' with
  | nil => cases l' with
    | nil => exact .nil
    | cons => simp at hl
  | cons v l ih =>
    cases l' with
    | nil => simp at hl
    | cons v' l' =>
      exact .cons (h 0 v v' rfl rfl) (ih (by simpa using hl) fun i a b ha hb => h (i + 1) a b (by simpa using ha) (by simpa using hb))

theorem VL.append {l l' m m' : List Value} (h : VL κ φ l l') (k : VL κ φ m m') : VL κ φ (l ++ m) (l' ++ m') := by
  induction l generalizing l' with
  | nil => cases h; exact k
  | cons v l ih => cases h with | cons a b => exact .cons a (ih b)
theorem VL.drop {l l' : List Value} (h : VL κ φ l l') (n : Nat) : VL κ φ (l.drop n) (l'.drop n) := by
  induction n generalizing l l' with
  | zero => exact h
  | succ n ih => cases h with
    | nil => exact .nil
    | cons a b => exact ih b
theorem VL.take {l l' : List Value} (h : VL κ φ l l') (n : Nat) : VL κ φ (l.take n) (l'.take n) := by
  induction n generalizing l l' with
  | zero => exact .nil
  | succ n ih => cases h with
    | nil => exact .nil
    | cons a b => exact .cons a (ih b)
theorem VL.set {l l' : List Value} (h : VL κ φ l l') (n : Nat) {v v' : Value} (k : V κ φ v v') : VL κ φ (l.set n v) (l'.set n v') := by
  induction n generalizing l l' with
  | zero => cases h with
    | nil => exact .nil
    | cons a b => exact .cons k b
  | succ n ih => cases h with
    | nil => exact .nil
    | cons a b => exact .cons a (ih b)

mutual
theorem V.refl : ∀ {v : Value}, af v = true → V κ φ v v := fun h => .af h
theorem VL.refl : ∀ {l : List Value}, afL l = true → VL κ φ l l
  | [], _ => .nil
  | v :: l, h => by
    simp only [afL, Bool.and_eq_true] at h
    exact .cons (.af h.1) (VL.refl h.2)
end

/-! What a value without an address stands for is it. -/
mutual
theorem V.eq_of_af : ∀ {v v' : Value}, V κ φ v v' → af v = true → v' = v
  | _, _, .af _, _ => rfl
  | _, _, .ptr _, h => by simp [Qe.af] at h
  | _, _, .sl _ _ _ _, h => by simp [Qe.af] at h
  | _, _, .fn a b c, h => by
    simp only [Qe.af, Bool.and_eq_true] at h
    rw [VL.eq_of_af b h.1.2, VL.eq_of_af c h.2]
  | _, _, .yld a, h => by simp [Qe.af, noYield] at h
  | _, _, .mp a, h => by simp [Qe.af] at h
  | _, _, .iface a, h => by rw [V.eq_of_af a (by simpa [Qe.af] using h)]
  | _, _, .agg a, h => by rw [VL.eq_of_af a (by simpa [Qe.af] using h)]
  | _, _, .tuple a, h => by rw [VL.eq_of_af a (by simpa [Qe.af] using h)]
  | _, _, .opq k _, h => by simp [Qe.af] at h
theorem VL.eq_of_af : ∀ {l l' : List Value}, VL κ φ l l' → afL l = true → l' = l
  | _, _, .nil, _ => rfl
  | _, _, .cons a b, h => by
    simp only [afL, Bool.and_eq_true] at h
    rw [V.eq_of_af a h.1, VL.eq_of_af b h.2]
end

theorem V.bool {b : Bool} {r : Value} (h : V κ φ (.bool b) r) : r = .bool b := h.eq_of_af rfl
theorem V.int {k : IntKind} {n : Int} {r : Value} (h : V κ φ (.int k n) r) : r = .int k n := h.eq_of_af rfl
theorem V.string {s : ByteArray} {r : Value} (h : V κ φ (.string s) r) : r = .string s := h.eq_of_af rfl
theorem V.nilIface {r : Value} (h : V κ φ .nilIface r) : r = .nilIface := h.eq_of_af rfl
theorem V.ptrI {b o : Nat} {sp : Option Nat} {r : Value} (h : V κ φ (.pointer (some ⟨b, o, sp⟩)) r) : sp = none ∧ ∃ p, φ b = some p ∧ r = .pointer (some ⟨p.β, p.o + o, none⟩) := by
  cases h with
  | af e => simp [Qe.af] at e
  | ptr e => exact ⟨rfl, _, e, rfl⟩
theorem V.slI {a : Addr} {l c : Nat} {r : Value} (h : V κ φ (.slice (some a) l c) r) : c = 0 ∧ a.spot = none ∧ ∃ p o' cap, φ a.block = some p ∧ (l ≠ 0 → o' = p.o + a.off) ∧ l ≤ cap ∧ o' + cap * p.es ≤ p.size ∧ r = .slice (some ⟨p.β, o', none⟩) l cap := by
  cases h with
  | af e => simp [Qe.af] at e
  | sl e a b c => exact ⟨rfl, rfl, _, _, _, e, a, b, c, rfl⟩
theorem V.slN {l c : Nat} {r : Value} (h : V κ φ (.slice none l c) r) : l = 0 ∧ c = 0 ∧ r = .slice none 0 0 := by
  cases h with
  | af e => simp [Qe.af] at e; obtain ⟨rfl, rfl⟩ := e; exact ⟨rfl, rfl, rfl⟩
theorem V.aggI {l : List Value} {r : Value} (h : V κ φ (.agg ⟨l⟩) r) : ∃ l', r = .agg ⟨l'⟩ ∧ VL κ φ l l' := by
  cases h with
  | af e => exact ⟨l, rfl, VL.refl (by simpa [Qe.af] using e)⟩
  | agg e => exact ⟨_, rfl, e⟩
theorem V.tupleI {l : List Value} {r : Value} (h : V κ φ (.tuple ⟨l⟩) r) : ∃ l', r = .tuple ⟨l'⟩ ∧ VL κ φ l l' := by
  cases h with
  | af e => exact ⟨l, rfl, VL.refl (by simpa [Qe.af] using e)⟩
  | tuple e => exact ⟨_, rfl, e⟩
theorem V.ifaceI {t : TypeId} {v r : Value} (h : V κ φ (.iface t v) r) : ∃ v', r = .iface t v' ∧ V κ φ v v' := by
  cases h with
  | af e => exact ⟨v, rfl, .af (by simpa [Qe.af] using e)⟩
  | iface e => exact ⟨_, rfl, e⟩
theorem V.fnI {f : Fn} {fs cs : List Value} {r : Value} (hn : noYield f = true) (h : V κ φ (.func f ⟨fs⟩ ⟨cs⟩) r) : ∃ fs' cs', r = .func f ⟨fs'⟩ ⟨cs'⟩ ∧ VL κ φ fs fs' ∧ VL κ φ cs cs' := by
  cases h with
  | af e => simp only [Qe.af, Bool.and_eq_true] at e; exact ⟨fs, cs, rfl, VL.refl e.1.2, VL.refl e.2⟩
  | fn a b c => exact ⟨_, _, rfl, b, c⟩
  | yld a => simp [noYield] at hn
theorem V.mapI {b : Nat} {r : Value} (h : V κ φ (.map (some b)) r) : ∃ p, φ b = some p ∧ r = .map (some p.β) := by
  cases h with
  | af e => simp [Qe.af] at e
  | mp a => exact ⟨_, a, rfl⟩
theorem V.mapN {r : Value} (h : V κ φ (.map none) r) : r = .map none := h.eq_of_af rfl
theorem V.yldI {l : Nat} {fs cs : List Value} {r : Value} (h : V κ φ (.func (.yield l) ⟨fs⟩ ⟨cs⟩) r) : fs = [] ∧ cs = [] ∧ ∃ p, φ l = some p ∧ r = .func (.yield p.β) ⟨[]⟩ ⟨[]⟩ := by
  cases h with
  | af e => simp [Qe.af, noYield] at e
  | fn a b c => simp [noYield] at a
  | yld a => exact ⟨rfl, rfl, _, a, rfl⟩

/-- The cells of a value. -/
theorem V.cells {v v' : Value} (h : V κ φ v v') : VL κ φ v.cells.toList v'.cells.toList := by
  cases h with
  | af e =>
    cases v with
    | agg cs => obtain ⟨l⟩ := cs; exact VL.refl (l := l) (by simpa [Qe.af] using e)
    | _ => exact .cons (.af e) .nil
  | agg a => exact a
  | ptr e => exact .cons (.ptr e) .nil
  | sl e a b c => exact .cons (.sl e a b c) .nil
  | fn a b c => exact .cons (.fn a b c) .nil
  | yld a => exact .cons (.yld a) .nil
  | mp a => exact .cons (.mp a) .nil
  | iface a => exact .cons (.iface a) .nil
  | tuple a => exact .cons (.tuple a) .nil
  | opq k o =>
    have e : (κ k).cells.toList = [κ k] := by cases hq : κ k <;> simp_all [Value.oneCell', Value.cells]
    rw [e]
    exact .cons (.opq k o) .nil
end

/-! ### Deferred calls -/
inductive DV (κ : Nat → Value) (φ : Phi) : Deferred → Deferred → Prop
  | fn {f : Fn} {cap cap' args args' : List Value} : noYield f = true → VL κ φ cap cap' → VL κ φ args args' → DV κ φ ⟨.fn f ⟨cap⟩, ⟨args⟩⟩ ⟨.fn f ⟨cap'⟩, ⟨args'⟩⟩
  | col {b : Nat} {r : Pl} : φ b = some r → DV κ φ ⟨.collected b, #[]⟩ ⟨.collected r.β, #[]⟩
inductive DVL (κ : Nat → Value) (φ : Phi) : List Deferred → List Deferred → Prop
  | nil : DVL κ φ [] []
  | cons {d d' : Deferred} {l l' : List Deferred} : DV κ φ d d' → DVL κ φ l l' → DVL κ φ (d :: l) (d' :: l')
section
variable {κ : Nat → Value} {φ φ' : Phi}
theorem DV.mono (h : φ.le φ') {d d' : Deferred} (k : DV κ φ d d') : DV κ φ' d d' := by
  cases k with
  | fn a b c => exact .fn a (b.mono h) (c.mono h)
  | col e => exact .col (h _ _ e)
theorem DVL.mono (h : φ.le φ') {l l' : List Deferred} (k : DVL κ φ l l') : DVL κ φ' l l' := by
  induction k with
  | nil => exact .nil
  | cons a _ ih => exact .cons (a.mono h) ih
theorem DVL.append {l l' m m' : List Deferred} (h : DVL κ φ l l') (k : DVL κ φ m m') : DVL κ φ (l ++ m) (l' ++ m') := by
  induction h with
  | nil => exact k
  | cons a _ ih => exact .cons a ih
end

/-! ### Temporaries, objects, heaps -/
/-- The slots of a frame. -/
structure TmR (κ : Nat → Value) (φ : Phi) (nt : Nat) (tm : Tr Value) (rt : Array Value) : Prop where
  size : rt.size = nt
  val : ∀ i, V κ φ (opv tm (.tmp i)) (rt.getD i undef)

def wr : CObj → Bool
  | .cells m _ _ => !(Nat.beq m 2)
  | _ => true

/-- The entries of a map. -/
inductive ML (κ : Nat → Value) (φ : Phi) : List Value → List MapEntry → Prop
  | nil : ML κ φ [] []
  | cons {k v v' : Value} {n : Nat} {l : List Value} {l' : List MapEntry} : af k = true → V κ φ v v' → ML κ φ l l' → ML κ φ (ment k v n :: l) (⟨k, v', n⟩ :: l')
theorem ML.mono {κ : Nat → Value} {φ φ' : Phi} (h : φ.le φ') {l : List Value} {l' : List MapEntry} (k : ML κ φ l l') : ML κ φ' l l' := by
  induction k with
  | nil => exact .nil
  | cons a b _ ih => exact .cons a (b.mono h) ih

inductive ObjR (κ : Nat → Value) (P : Program) (φ : Phi) : CObj → Pl → Obj → Prop
  | cells {m : Nat} {e : TypeId} {cs rs : List Value} {fz : Nat × Nat} {r : Pl} : rs.length = r.size → r.es = P.cellsOf e → r.o + cs.length ≤ r.size →
      VL κ φ cs ((rs.drop r.o).take cs.length) → (m < 2 → ∀ i, i < r.size → ¬ (fz.1 ≤ i ∧ i < fz.2)) → (m = 1 → r.o = 0 ∧ r.size = cs.length) → ObjR κ P φ (.cells m e cs) r (.cells ⟨rs⟩ e fz)
  | iter {s : ByteArray} {p : Nat} {r : Pl} : r.o = 0 → ObjR κ P φ (.iter s p) r (.stringIter s p)
  | map {es : List Value} {clock : Nat} {rs : List MapEntry} {r : Pl} : r.o = 0 → ML κ φ es rs → ObjR κ P φ (.map es clock) r (.map ⟨rs⟩ clock)
  | miter0 {s l : Nat} {sn : List Nat} {r : Pl} : r.o = 0 → ObjR κ P φ (.miter none s sn l) r (.mapIter none s ⟨sn⟩ l)
  | miter {m s l : Nat} {sn : List Nat} {r p : Pl} : r.o = 0 → φ m = some p → ObjR κ P φ (.miter (some m) s sn l) r (.mapIter (some p.β) s ⟨sn⟩ l)
  | loop {l : CLoop} {rt : Array Value} {r p : Pl} : r.o = 0 → TmR κ φ l.nt l.tm rt → φ l.defers = some p →
      ObjR κ P φ (.loop l) r (.loop ⟨l.state, l.pending, l.fn, rt, l.params, l.assign, l.body, p.β⟩)
  | defd {l l' : List Deferred} {r : Pl} : r.o = 0 → DVL κ φ l l' → ObjR κ P φ (.defd (some l)) r (.deferred (some l'))
  | defd0 {r : Pl} : r.o = 0 → ObjR κ P φ (.defd none) r (.deferred none)

theorem TmR.mono {κ : Nat → Value} {φ φ' : Phi} (h : φ.le φ') {nt : Nat} {tm : Tr Value} {rt : Array Value} (k : TmR κ φ nt tm rt) : TmR κ φ' nt tm rt :=
  ⟨k.size, fun i => (k.val i).mono h⟩
theorem ObjR.mono {κ : Nat → Value} {P : Program} {φ φ' : Phi} (h : φ.le φ') {o : CObj} {r : Pl} {x : Obj} (k : ObjR κ P φ o r x) : ObjR κ P φ' o r x := by
  cases k with
  | cells a b c d e f => exact .cells a b c (d.mono h) e f
  | iter a => exact .iter a
  | map a b => exact .map a (b.mono h)
  | miter0 a => exact .miter0 a
  | miter a b => exact .miter a (h _ _ b)
  | loop a b c => exact .loop a (b.mono h) (h _ _ c)
  | defd a b => exact .defd a (b.mono h)
  | defd0 a => exact .defd0 a

/-- The blocks that the run doesn't own: how many, and a world that holds them. -/
structure Bd where
  n : Nat
  w : World
structure Rel (κ : Nat → Value) (P : Program) (B : Bd) (G : Nat) (φ : Phi) (h : Heap) (w : World) : Prop where
  obj : ∀ id o, h.get id = some o → ∃ r x, φ id = some r ∧ w.heap[r.β]? = some x ∧ ObjR κ P φ o r x ∧ (wr o = true → B.n ≤ r.β)
  inj : ∀ id id' o o' r r', h.get id = some o → h.get id' = some o' → wr o = true → id ≠ id' → φ id = some r → φ id' = some r' → r.β ≠ r'.β
  glob : ∀ g, g < G → ∃ r, φ g = some r ∧ r.β = g ∧ r.o = 0
  base : ∀ β, β < B.n → w.heap[β]? = B.w.heap[β]?

/-- A part of a heap. -/
def sub (h H : Heap) : Prop := ∀ id o, h.get id = some o → H.get id = some o
theorem Rel.sub {κ : Nat → Value} {P : Program} {B : Bd} {G : Nat} {φ : Phi} {h H : Heap} {w : World} (hR : Rel κ P B G φ H w) (hs : Qe.sub h H) : Rel κ P B G φ h w :=
  ⟨fun id o e => hR.obj id o (hs _ _ e), fun id id' o o' r r' e e' => hR.inj id id' o o' r r' (hs _ _ e) (hs _ _ e'), hR.glob, hR.base⟩

/-- What a piece of a run makes of the state: the counter, the places, the heap, the world. -/
structure Stp (κ : Nat → Value) (P : Program) (B : Bd) (G : Nat) (c c' : Nat) (φ φ' : Phi) (h h' : Heap) (w w' : World) : Prop where
  cc : c ≤ c'
  ext : ∀ id, ¬ (c ≤ id ∧ id < c') → φ' id = φ id
  new : ∀ id, h'.get id ≠ none → h.get id ≠ none ∨ (c ≤ id ∧ id < c')
  rel : Rel κ P B G φ' h' w'
  size : w.heap.size ≤ w'.heap.size
  frame : ∀ β, β < w.heap.size → (∀ id o r, h.get id = some o → wr o = true → φ id = some r → r.β ≠ β) → w'.heap[β]? = w.heap[β]?
  own : ∀ id o r, h'.get id = some o → φ' id = some r → (∃ id0 o0 r0, h.get id0 = some o0 ∧ φ id0 = some r0 ∧ r0.β = r.β ∧ (wr o = true → wr o0 = true)) ∨ w.heap.size ≤ r.β
  tape : w'.tape = w.tape
  os : w'.os = w.os
  output : w'.output = w.output

def fresh (φ : Phi) (c c' : Nat) : Prop := ∀ id, c ≤ id → id < c' → φ id = none

section
variable {κ : Nat → Value} {P : Program} {B : Bd} {G : Nat} {φ φ' φ'' : Phi} {h h' h'' : Heap} {w w' w'' : World} {c c' c'' : Nat}
theorem Stp.le (k : Stp κ P B G c c' φ φ' h h' w w') (hf : fresh φ c c') : φ.le φ' := fun b r e => by
  by_cases hb : c ≤ b ∧ b < c'
  · rw [hf b hb.1 hb.2] at e; cases e
  · rw [k.ext b hb]; exact e
theorem Stp.refl (hR : Rel κ P B G φ h w) : Stp κ P B G c c φ φ h h w w :=
  ⟨Nat.le_refl _, fun _ _ => rfl, fun _ e => .inl e, hR, Nat.le_refl _, fun _ _ _ => rfl, fun i o r e e' => .inl ⟨i, o, r, e, e', rfl, fun q => q⟩, rfl, rfl, rfl⟩
theorem Stp.trans (a : Stp κ P B G c c' φ φ' h h' w w') (b : Stp κ P B G c' c'' φ' φ'' h' h'' w' w'') : Stp κ P B G c c'' φ φ'' h h'' w w'' where
  cc := Nat.le_trans a.cc b.cc
  ext := fun id e => by
    have := a.cc; have := b.cc
    rw [b.ext id (by omega), a.ext id (by omega)]
  new := fun id e => by
    have := a.cc; have := b.cc
    rcases b.new id e with e | e
    · rcases a.new id e with e | e
      · exact .inl e
      · exact .inr (by omega)
    · exact .inr (by omega)
  rel := b.rel
  size := Nat.le_trans a.size b.size
  frame := fun β hb hn => by
    rw [b.frame β (by have := a.size; omega) (fun id o r e ew er eb => ?_), a.frame β hb hn]
    rcases a.own id o r e er with ⟨id0, o0, r0, e0, f0, eq, hw⟩ | hge
    · exact hn id0 o0 r0 e0 (hw ew) f0 (eq.trans eb)
    · omega
  own := fun id o r e er => by
    rcases b.own id o r e er with ⟨id0, o0, r0, e0, f0, eq, hw⟩ | hge
    · rcases a.own id0 o0 r0 e0 f0 with ⟨id1, o1, r1, e1, f1, eq1, hw1⟩ | hge
      · exact .inl ⟨id1, o1, r1, e1, f1, eq1.trans eq, fun q => hw1 (hw q)⟩
      · exact .inr (by omega)
    · exact .inr (by have := a.size; omega)
  tape := b.tape.trans a.tape
  os := b.os.trans a.os
  output := b.output.trans a.output
theorem fresh.left (hf : fresh φ c c'') (h : c' ≤ c'') : fresh φ c c' := fun id a b => hf id a (by omega)
theorem fresh.right (hf : fresh φ c c'') (k : Stp κ P B G c c' φ φ' h h' w w') : fresh φ' c' c'' := fun id a b => by
  have := k.cc
  rw [k.ext id (by omega)]; exact hf id (by omega) b

/-- A piece of a run over a part of the heap leaves the rest of it as it was. -/
theorem Stp.framed {H H' : Heap} (hR : Rel κ P B G φ H w) (hs : Qe.sub h H) (k : Stp κ P B G c c' φ φ' h h' w w') (hf : fresh φ c c')
    (hH : ∀ id o, H'.get id = some o → h'.get id = some o ∨ (H.get id = some o ∧ h.get id = none)) : Stp κ P B G c c' φ φ' H H' w w' := by
  have hle := k.le hf
  have hin : ∀ {id o r}, H.get id = some o → φ' id = some r → φ id = some r := by
    intro id o r e er
    obtain ⟨r0, x, f, _⟩ := hR.obj id o e
    have := hle _ _ f
    rw [this] at er; cases er; exact f
  refine { cc := k.cc, ext := k.ext, new := ?_, rel := ⟨?_, ?_, k.rel.glob, k.rel.base⟩, size := k.size, frame := ?_, own := ?_, tape := k.tape, os := k.os, output := k.output }
  · intro id e
    cases he : H'.get id with
    | none => exact absurd he e
    | some o =>
      rcases hH id o he with e1 | ⟨e1, _⟩
      · rcases k.new id (by rw [e1]; simp) with e2 | e2
        · cases e3 : h.get id with
          | none => exact absurd e3 e2
          | some o3 => exact .inl (by rw [hs _ _ e3]; simp)
        · exact .inr e2
      · exact .inl (by rw [e1]; simp)
  · intro id o e
    rcases hH id o e with e1 | ⟨e1, e2⟩
    · exact k.rel.obj id o e1
    · obtain ⟨r, x, f, hx, ho, hb⟩ := hR.obj id o e1
      refine ⟨r, x, hle _ _ f, ?_, ho.mono hle, hb⟩
      have hlt : r.β < w.heap.size := by
        rcases Array.getElem?_eq_some_iff.1 hx with ⟨hl, _⟩; exact hl
      rw [k.frame r.β hlt (fun id0 o0 r0 e0 ew f0 eb => ?_), hx]
      exact hR.inj id0 id o0 o r0 r (hs _ _ e0) e1 ew (fun he => by subst he; rw [e2] at e0; cases e0) f0 f eb
  · intro id id' o o' r r' e e' ew ne f f' eb
    rcases hH id o e with e1 | ⟨e1, n1⟩ <;> rcases hH id' o' e' with e2 | ⟨e2, n2⟩
    · exact k.rel.inj id id' o o' r r' e1 e2 ew ne f f' eb
    · have f2 := hin e2 f'
      obtain ⟨r2, x2, g2, hx2, _⟩ := hR.obj id' o' e2
      rw [f2] at g2; cases g2
      have hlt : r'.β < w.heap.size := by rcases Array.getElem?_eq_some_iff.1 hx2 with ⟨hl, _⟩; exact hl
      rcases k.own id o r e1 f with ⟨id0, o0, r0, e0, f0, eq, hw⟩ | hge
      · exact hR.inj id0 id' o0 o' r0 r' (hs _ _ e0) e2 (hw ew) (fun he => by subst he; rw [n2] at e0; cases e0) f0 f2 (eq.trans eb)
      · omega
    · have f1 := hin e1 f
      obtain ⟨r2, x2, g2, hx2, _⟩ := hR.obj id o e1
      rw [f1] at g2; cases g2
      have hlt : r.β < w.heap.size := by rcases Array.getElem?_eq_some_iff.1 hx2 with ⟨hl, _⟩; exact hl
      rcases k.own id' o' r' e2 f' with ⟨id0, o0, r0, e0, f0, eq, hw⟩ | hge
      · exact hR.inj id id0 o o0 r r0 e1 (hs _ _ e0) ew (fun he => by subst he; rw [n1] at e0; cases e0) f1 f0 (eb.trans eq.symm)
      · omega
    · exact hR.inj id id' o o' r r' e1 e2 ew ne (hin e1 f) (hin e2 f') eb
  · intro β hb hn
    exact k.frame β hb fun id o r e ew f eb => hn id o r (hs _ _ e) ew f eb
  · intro id o r e f
    rcases hH id o e with e1 | ⟨e1, e2⟩
    · rcases k.own id o r e1 f with ⟨id0, o0, r0, e0, f0, eq, hw⟩ | hge
      · exact .inl ⟨id0, o0, r0, hs _ _ e0, f0, eq, hw⟩
      · exact .inr hge
    · exact .inl ⟨id, o, r, e1, hin e1 f, rfl, fun q => q⟩
end
end Go.Qe
end
section
set_option linter.unusedVariables false
set_option linter.unusedSimpArgs false
namespace Go.Qe

theorem prun_run {α : Type} {P : Program} (m : Sem α) : ∀ {a : α} (w : World), prun P m = some a → m.run P w = .ok a w := by
  induction m with
  | pure a => intro b w h; simp only [prun, Option.some.injEq] at h; subst h; rfl
  | program k ih => intro a w h; exact ih P w h
  | mark m k ih => intro a w h; exact ih w h
  | _ => intro a w h; simp [prun] at h

theorem run_v {P : Program} {s : Sem Value} {v : Value} {w w' : World} (h : s.run P w = .ok v w') : (do pure (Next.value (← s)) : Sem Next).run P w = .ok (.value v) w' := by
  rw [Sem.run_bind, h]; rfl
theorem run_u {P : Program} {s : Sem Unit} {w w' : World} (h : s.run P w = .ok () w') : (do s; pure Next.skip : Sem Next).run P w = .ok .skip w' := by
  rw [Sem.run_bind, h]; rfl

def Phi.upd (φ : Phi) (c : Nat) (r : Pl) : Phi := fun i => if i = c then some r else φ i
theorem Phi.upd_self (φ : Phi) (c : Nat) (r : Pl) : φ.upd c r c = some r := if_pos rfl
theorem Phi.upd_ne (φ : Phi) {c i : Nat} (r : Pl) (h : i ≠ c) : φ.upd c r i = φ i := if_neg h
theorem Phi.le_upd {φ : Phi} {c : Nat} (r : Pl) (h : φ c = none) : φ.le (φ.upd c r) := fun b q e => by
  rw [Phi.upd_ne _ _ (fun hb => by subst hb; rw [h] at e; cases e)]; exact e

/-- What a light operation makes: nothing, or one new block. -/
def LStep (κ : Nat → Value) (P : Program) (φ : Phi) (c : Nat) (ob : Option CObj) (v : Value) (w : World) (v' : Value) (w' : World) : Prop := match ob with
  | none => w' = w ∧ V κ φ v v'
  | some o => ∃ x es sz, w'.heap = w.heap.push x ∧ w'.tape = w.tape ∧ w'.os = w.os ∧ w'.output = w.output ∧
      ObjR κ P (φ.upd c ⟨w.heap.size, 0, es, sz⟩) o ⟨w.heap.size, 0, es, sz⟩ x ∧ V κ (φ.upd c ⟨w.heap.size, 0, es, sz⟩) v v'

/-- The blocks that are read lie in the world as the heap has them. -/
def RdOk (κ : Nat → Value) (P : Program) (φ : Phi) (getO : Nat → Option CObj) (rd : List Nat) (w : World) : Prop :=
  ∀ b ∈ rd, ∀ o, getO b = some o → ∀ r, φ b = some r → ∃ x, w.heap[r.β]? = some x ∧ ObjR κ P φ o r x
theorem RdOk.at {κ : Nat → Value} {P : Program} {φ : Phi} {getO : Nat → Option CObj} {rd : List Nat} {w : World} (hR : RdOk κ P φ getO rd w) {b : Nat} {o : CObj} {r : Pl} (hb : b ∈ rd) (hg : getO b = some o) (hp : φ b = some r) :
    ∃ r x, φ b = some r ∧ w.heap[r.β]? = some x ∧ ObjR κ P φ o r x := by
  obtain ⟨x, h1, h2⟩ := hR b hb o hg r hp
  exact ⟨r, x, hp, h1, h2⟩

section
variable {κ : Nat → Value} {P : Program} {φ : Phi} {c : Nat} {getO : Nat → Option CObj} {ev ρ : Operand → Value} {w : World} {v : Value} {ob : Option CObj} {rd : List Nat}

def LOk (κ : Nat → Value) (P : Program) (φ : Phi) (c : Nat) (ρ : Operand → Value) (w : World) (o : Oper) (v : Value) (ob : Option CObj) : Prop :=
  ∃ v' w', (execOp ρ o).run P w = .ok (.value v') w' ∧ LStep κ P φ c ob v w v' w'

theorem info_of_sizeT {t : TypeId} {n : Nat} (h : sizeT P t = some n) : ∃ i, P.info? t = some i ∧ i.size = n ∧ P.cellsOf t = n := by
  unfold sizeT at h
  cases hi : P.info? t with
  | none => simp [hi] at h
  | some i => simp [hi] at h; exact ⟨i, rfl, h, by simp [Program.cellsOf, hi, h]⟩
theorem run_sizeT {t : TypeId} {n : Nat} (h : sizeT P t = some n) (w : World) : (sizeOf t).run P w = .ok n w := by
  obtain ⟨i, hi, hn, _⟩ := info_of_sizeT h
  simp [sizeOf, typeInfo, hi, hn]
theorem zeroT_spec {t : TypeId} {z : Value} (h : zeroT P t = some z) : ∃ i, P.info? t = some i ∧ i.zero = some z ∧ af z = true := by
  unfold zeroT at h
  split at h
  · rename_i i hi
    split at h
    · rename_i z' hz
      split at h
      · rename_i haf
        simp only [Option.some.injEq] at h; subst h
        exact ⟨i, hi, hz, haf⟩
      · cases h
    · cases h
  · cases h
theorem run_zeroT {t : TypeId} {z : Value} (h : zeroT P t = some z) (w : World) : (zeroValue t).run P w = .ok z w := by
  obtain ⟨i, hi, hz, _⟩ := zeroT_spec h
  simp [zeroValue, typeInfo, hi, hz]
theorem run_und {t : TypeId} {d : TypeDesc} (h : P.underlying t = some d) (w : World) : (underlying t).run P w = .ok d w := run_underlying h w
theorem run_isAggT {t : TypeId} {b : Bool} (h : isAggT P t = some b) (w : World) : (isAgg t).run P w = .ok b w := by
  unfold isAggT at h
  unfold isAgg
  cases hu : P.underlying t with
  | none => simp [hu] at h
  | some d =>
    rw [Sem.run_bind, run_und hu]
    cases d <;> simp_all
/-- A new row. -/
theorem run_newRow (e : TypeId) (cs : Array Value) (w : World) : (newRow e cs).run P w = .ok ⟨w.heap.size, 0, none⟩ { w with heap := w.heap.push (.cells cs e) } := by
  simp [newRow, newObj, Sem.run]

theorem afL_cells {z : Value} (h : af z = true) : afL z.cells.toList = true := by
  cases z <;> simp_all [Value.cells, af, afL]

/-- A new variable of its own. -/
theorem lstep_new {e : TypeId} {cs rs : List Value} {m : Nat} {v : Value} {v' : Value} (hc : φ c = none) (h : VL κ φ cs rs)
    (hV : V κ (φ.upd c ⟨w.heap.size, 0, P.cellsOf e, rs.length⟩) v v') :
    LStep κ P φ c (some (.cells m e cs)) v w v' { w with heap := w.heap.push (.cells ⟨rs⟩ e) } := by
  have hl := h.length
  refine ⟨_, P.cellsOf e, rs.length, rfl, rfl, rfl, rfl, .cells rfl rfl (by simp; omega) ?_ (fun _ i _ => by simp) (fun _ => ⟨rfl, hl⟩), hV⟩
  simp only [List.drop_zero]
  rw [← hl, List.take_length]
  exact h.mono (Phi.le_upd _ hc)

theorem V_new {r : Pl} {c : Nat} (hr : r.o = 0) : V κ (φ.upd c r) (ptr c 0) (.pointer (some ⟨r.β, 0, none⟩)) := by
  have := V.ptr (κ := κ) (o := 0) (φ.upd_self c r)
  rwa [hr] at this

theorem lop_move {x : Operand} {d : Option Tmp} {ty : TypeId} {pos : String} {aft : Array Edge} {g : Option (Nat × Bool)}
    (h : lop P c getO ev ⟨d, .move x, ty, pos, aft, g⟩ = some ⟨v, ob, rd⟩) (hO : ∀ y ∈ (Op.move x).operands, V κ φ (ev y) (ρ y)) : LOk κ P φ c ρ w ⟨d, .move x, ty, pos, aft, g⟩ v ob := by
  simp only [lop, Option.some.injEq, LR.mk.injEq] at h
  obtain ⟨rfl, rfl, rfl⟩ := h
  exact ⟨ρ x, w, rfl, rfl, hO x (by simp [Op.operands])⟩
theorem lop_assign {x : Operand} {d : Option Tmp} {ty : TypeId} {pos : String} {aft : Array Edge} {g : Option (Nat × Bool)}
    (h : lop P c getO ev ⟨d, .assign x, ty, pos, aft, g⟩ = some ⟨v, ob, rd⟩) (hO : ∀ y ∈ (Op.assign x).operands, V κ φ (ev y) (ρ y)) : LOk κ P φ c ρ w ⟨d, .assign x, ty, pos, aft, g⟩ v ob := by
  simp only [lop, Option.some.injEq, LR.mk.injEq] at h
  obtain ⟨rfl, rfl, rfl⟩ := h
  exact ⟨ρ x, w, rfl, rfl, hO x (by simp [Op.operands])⟩
theorem lop_pick {q a b : Operand} {d : Option Tmp} {ty : TypeId} {pos : String} {aft : Array Edge} {g : Option (Nat × Bool)}
    (h : lop P c getO ev ⟨d, .pick q a b, ty, pos, aft, g⟩ = some ⟨v, ob, rd⟩) (hO : ∀ y ∈ (Op.pick q a b).operands, V κ φ (ev y) (ρ y)) : LOk κ P φ c ρ w ⟨d, .pick q a b, ty, pos, aft, g⟩ v ob := by
  simp only [lop] at h
  have hq := hO q (by simp [Op.operands])
  split at h
  · rename_i e
    simp only [Option.some.injEq, LR.mk.injEq] at h
    obtain ⟨rfl, rfl, rfl⟩ := h
    rw [e] at hq
    exact ⟨ρ a, w, by simp [execOp, hq.bool, asBool], rfl, hO a (by simp [Op.operands])⟩
  · rename_i e
    simp only [Option.some.injEq, LR.mk.injEq] at h
    obtain ⟨rfl, rfl, rfl⟩ := h
    rw [e] at hq
    exact ⟨ρ b, w, by simp [execOp, hq.bool, asBool], rfl, hO b (by simp [Op.operands])⟩
  · cases h
theorem lop_alloc {t : TypeId} {d : Option Tmp} {ty : TypeId} {pos : String} {aft : Array Edge} {g : Option (Nat × Bool)}
    (h : lop P c getO ev ⟨d, .alloc t, ty, pos, aft, g⟩ = some ⟨v, ob, rd⟩) (hc : ob ≠ none → φ c = none) : LOk κ P φ c ρ w ⟨d, .alloc t, ty, pos, aft, g⟩ v ob := by
  simp only [lop] at h
  split at h
  · rename_i z hz
    simp only [Option.some.injEq, LR.mk.injEq] at h
    obtain ⟨rfl, rfl, rfl⟩ := h
    obtain ⟨i, hi, hz', haf⟩ := zeroT_spec hz
    refine ⟨_, _, run_v (s := Instr.alloc t true (.tuple #[])) ?_, lstep_new (hc (by simp)) (VL.refl (afL_cells haf)) (V_new rfl)⟩
    simp [Instr.alloc, run_zeroT hz, newVar, run_newRow]
  · cases h
theorem lop_box {t : TypeId} {x : Operand} {d : Option Tmp} {ty : TypeId} {pos : String} {aft : Array Edge} {g : Option (Nat × Bool)}
    (h : lop P c getO ev ⟨d, .box t x, ty, pos, aft, g⟩ = some ⟨v, ob, rd⟩) (hO : ∀ y ∈ (Op.box t x).operands, V κ φ (ev y) (ρ y)) (hc : ob ≠ none → φ c = none) : LOk κ P φ c ρ w ⟨d, .box t x, ty, pos, aft, g⟩ v ob := by
  simp only [lop] at h
  split at h
  · rename_i hn
    simp only [Option.some.injEq, LR.mk.injEq] at h
    obtain ⟨rfl, rfl, rfl⟩ := h
    have hx := hO x (by simp [Op.operands])
    have hcs := hx.cells
    refine ⟨_, _, run_v (s := Instr.box t (ρ x)) ?_, lstep_new (hc (by simp)) hcs (V_new rfl)⟩
    simp [Instr.box, newVar, run_newRow]
  · cases h

/-- A variable read out of its cells. -/
theorem read_loadVar {t : TypeId} {cs rs : List Value} {o : Nat} {u : Value} {r : Pl} {e : TypeId} {fz : Nat × Nat} (h : readAt P t cs o = some u) (hw : w.heap[r.β]? = some (.cells ⟨rs⟩ e fz))
    (hV : VL κ φ cs ((rs.drop r.o).take cs.length)) : ∃ u', (loadVar t ⟨r.β, r.o + o, none⟩).run P w = .ok u' w ∧ V κ φ u u' := by
  have hcell : ∀ j v', ((rs.drop r.o).take cs.length)[j]? = some v' → w.cell? ⟨r.β, r.o + j, none⟩ = some v' := by
    intro j v' hj
    have h2 : rs[r.o + j]? = some v' := by
      rw [List.getElem?_take] at hj
      split at hj
      · rwa [List.getElem?_drop] at hj
      · cases hj
    simp [World.cell?, hw, h2]
  have hadd : ∀ a j : Nat, (⟨r.β, a, none⟩ : Addr).add j = ⟨r.β, a + j, none⟩ := by
    intro a j; unfold Addr.add; split <;> simp_all
  unfold readAt at h
  split at h
  · rename_i n ha hs
    split at h
    · rename_i hb
      have hb' := Nat.le_of_ble_eq_true hb
      simp only [Option.some.injEq] at h; subst h
      have hsub := (hV.drop o).take n
      refine ⟨_, ?_, .agg hsub⟩
      have hlen : ((((rs.drop r.o).take cs.length).drop o).take n).length = n := by
        rw [hsub.length]; simp; omega
      have hl := run_loadCells_list (P := P) w ⟨r.β, r.o + o, none⟩ ((((rs.drop r.o).take cs.length).drop o).take n) (fun j v' hj => by
        rw [hadd]
        have hj2 : ((rs.drop r.o).take cs.length)[o + j]? = some v' := by
          rw [List.getElem?_take] at hj
          split at hj
          · rwa [List.getElem?_drop] at hj
          · cases hj
        have := hcell (o + j) v' hj2
        rwa [← Nat.add_assoc] at this)
      rw [hlen] at hl
      simp [loadVar, run_isAggT ha, run_sizeT hs, hl]
    · cases h
  · rename_i ha hs
    obtain ⟨u', hu', hVu⟩ := hV.get h
    refine ⟨u', ?_, hVu⟩
    have := hcell o u' hu'
    simp [loadVar, run_isAggT ha, this]
  · cases h

theorem lop_load {t : TypeId} {a : Operand} {d : Option Tmp} {ty : TypeId} {pos : String} {aft : Array Edge} {g : Option (Nat × Bool)}
    (h : lop P c getO ev ⟨d, .load t a, ty, pos, aft, g⟩ = some ⟨v, ob, rd⟩) (hO : ∀ y ∈ (Op.load t a).operands, V κ φ (ev y) (ρ y)) (hR : RdOk κ P φ getO rd w) : LOk κ P φ c ρ w ⟨d, .load t a, ty, pos, aft, g⟩ v ob := by
  simp only [lop] at h
  have ha := hO a (by simp [Op.operands])
  split at h
  · rename_i b off e
    split at h
    · rename_i m el cs hg
      split at h
      · rename_i u hu
        simp only [Option.some.injEq, LR.mk.injEq] at h
        obtain ⟨rfl, rfl, rfl⟩ := h
        rw [e] at ha
        obtain ⟨_, p, hp, hr⟩ := ha.ptrI
        obtain ⟨r, x, hp', hw, hx⟩ := hR.at (by simp) hg hp
        rw [hp] at hp'; cases hp'
        cases hx with
        | cells h1 h2 h3 h4 h5 h6 =>
          obtain ⟨u', hl, hV⟩ := read_loadVar hu hw h4
          exact ⟨u', w, run_v (s := Instr.loadAt t (ρ a)) (by simp [Instr.loadAt, hr, Instr.sureAddr, hl]), rfl, hV⟩
      · cases h
    · cases h
  · cases h
theorem lop_nilCheck {x : Operand} {d : Option Tmp} {ty : TypeId} {pos : String} {aft : Array Edge} {g : Option (Nat × Bool)}
    (h : lop P c getO ev ⟨d, .nilCheck x, ty, pos, aft, g⟩ = some ⟨v, ob, rd⟩) (hO : ∀ y ∈ (Op.nilCheck x).operands, V κ φ (ev y) (ρ y)) : LOk κ P φ c ρ w ⟨d, .nilCheck x, ty, pos, aft, g⟩ v ob := by
  simp only [lop] at h
  have hx := hO x (by simp [Op.operands])
  split at h
  · rename_i a e
    simp only [Option.some.injEq, LR.mk.injEq] at h
    obtain ⟨rfl, rfl, rfl⟩ := h
    rw [e] at hx
    obtain ⟨hs, p, hp, hr⟩ := hx.ptrI
    exact ⟨ρ x, w, by simp [execOp, hr], rfl, hx⟩
  · rename_i f a b e
    simp only [Option.some.injEq, LR.mk.injEq] at h
    obtain ⟨rfl, rfl, rfl⟩ := h
    rw [e] at hx
    obtain ⟨fs, cs, hr, _, _⟩ := V.fnI (fs := a.toList) (cs := b.toList) rfl hx
    exact ⟨ρ x, w, by simp [execOp, hr], rfl, hx⟩
  · cases h
end
end Go.Qe
end
section
set_option linter.unusedVariables false
set_option linter.unusedSimpArgs false
namespace Go.Qe
section
variable {κ : Nat → Value} {P : Program} {φ : Phi} {c : Nat} {getO : Nat → Option CObj} {ev ρ : Operand → Value} {w : World} {v : Value} {ob : Option CObj} {rd : List Nat}

theorem okV_spec {m : Option Value} (h : okV m = some ⟨v, ob, rd⟩) : m = some v ∧ af v = true ∧ ob = none := by
  unfold okV at h
  split at h
  · split at h
    · rename_i haf
      simp only [Option.some.injEq, LR.mk.injEq] at h
      obtain ⟨rfl, rfl, rfl⟩ := h
      exact ⟨rfl, haf, rfl⟩
    · cases h
  · cases h
theorem lok_pure {o : Oper} {s : Sem Value} (hs : execOp ρ o = (do pure (Next.value (← s)))) (h : okV (prun P s) = some ⟨v, ob, rd⟩) : LOk κ P φ c ρ w o v ob := by
  obtain ⟨hp, haf, rfl⟩ := okV_spec h
  exact ⟨v, w, by rw [hs]; exact run_v (prun_run _ w hp), rfl, .af haf⟩
theorem run_equal_step (t : TypeId) (a b : Value) : (Op.equal t a b).run P w = (Op.equalIn (9999 + 1) t a b).run P w := rfl

theorem nilEq_sound {t : TypeId} {a b a' b' : Value} {r : Bool} (h : nilEq P t a b = some r) (ha : V κ φ a a') (hb : V κ φ b b') :
    (Op.equal t a' b').run P w = .ok r w ∧ (∀ bo x y, (eqGuard bo t x y a' b').run P w = .ok () w) ∧
    binOp .eql t a' b' = (do pure (.bool (← Op.equal t a' b'))) ∧ binOp .neq t a' b' = (do pure (.bool (!(← Op.equal t a' b')))) := by
  unfold nilEq at h
  split at h
  · rename_i el b1 o1 b2 o2 hu
    split at h
    · rename_i n hbb hsz
      have hbe := Nat.eq_of_beq_eq_true hbb
      subst hbe
      obtain ⟨_, p, hp, rfl⟩ := ha.ptrI
      obtain ⟨_, p', hp', rfl⟩ := hb.ptrI
      rw [hp] at hp'; cases hp'
      simp only [Option.some.injEq] at h; subst h
      refine ⟨?_, fun bo x y => by cases bo <;> rfl, rfl, rfl⟩
      rw [run_equal_step]
      unfold Op.equalIn
      simp [run_und hu, run_sizeT hsz, sameAddr]
      rw [Bool.eq_iff_iff]; simp
    · cases h
  · rename_i hu
    obtain ⟨_, p, hp, rfl⟩ := ha.ptrI
    obtain rfl := hb.eq_of_af rfl
    simp only [Option.some.injEq] at h; subst h
    refine ⟨?_, fun bo x y => by cases bo <;> rfl, rfl, rfl⟩
    rw [run_equal_step]; unfold Op.equalIn; simp [run_und hu]
  · rename_i hu
    obtain ⟨_, p, hp, rfl⟩ := hb.ptrI
    obtain rfl := ha.eq_of_af rfl
    simp only [Option.some.injEq] at h; subst h
    refine ⟨?_, fun bo x y => by cases bo <;> rfl, rfl, rfl⟩
    rw [run_equal_step]; unfold Op.equalIn; simp [run_und hu]
  · rename_i hu
    obtain ⟨_, _, p, o', cap, hp, _, _, _, rfl⟩ := ha.slI
    obtain ⟨_, _, rfl⟩ := hb.slN
    simp only [Option.some.injEq] at h; subst h
    refine ⟨?_, fun bo x y => by cases bo <;> rfl, rfl, rfl⟩
    rw [run_equal_step]; unfold Op.equalIn; simp [run_und hu]
  · rename_i hu
    obtain ⟨_, _, p, o', cap, hp, _, _, _, rfl⟩ := hb.slI
    obtain ⟨_, _, rfl⟩ := ha.slN
    simp only [Option.some.injEq] at h; subst h
    refine ⟨?_, fun bo x y => by cases bo <;> rfl, rfl, rfl⟩
    rw [run_equal_step]; unfold Op.equalIn; simp [run_und hu]
  · rename_i hu
    obtain rfl := hb.eq_of_af rfl
    simp only [Option.some.injEq] at h; subst h
    have ha2 : ∃ fn fs cs, a' = .func fn fs cs := by
      cases ha with
      | af e => exact ⟨_, _, _, rfl⟩
      | fn => exact ⟨_, _, _, rfl⟩
      | yld => exact ⟨_, _, _, rfl⟩
    obtain ⟨fn, fs, cs, rfl⟩ := ha2
    refine ⟨?_, fun bo x y => by cases bo <;> rfl, rfl, rfl⟩
    rw [run_equal_step]; unfold Op.equalIn; simp [run_und hu]
  · rename_i hu
    obtain rfl := ha.eq_of_af rfl
    simp only [Option.some.injEq] at h; subst h
    have hb2 : ∃ fn fs cs, b' = .func fn fs cs := by
      cases hb with
      | af e => exact ⟨_, _, _, rfl⟩
      | fn => exact ⟨_, _, _, rfl⟩
      | yld => exact ⟨_, _, _, rfl⟩
    obtain ⟨fn, fs, cs, rfl⟩ := hb2
    refine ⟨?_, fun bo x y => by cases bo <;> rfl, rfl, rfl⟩
    rw [run_equal_step]; unfold Op.equalIn; simp [run_und hu]
  · rename_i hu
    obtain ⟨u', rfl, _⟩ := ha.ifaceI
    obtain rfl := hb.eq_of_af rfl
    simp only [Option.some.injEq] at h; subst h
    refine ⟨?_, fun bo x y => by cases bo <;> rfl, rfl, rfl⟩
    rw [run_equal_step]; unfold Op.equalIn; simp [run_und hu]
  · rename_i hu
    obtain ⟨u', rfl, _⟩ := hb.ifaceI
    obtain rfl := ha.eq_of_af rfl
    simp only [Option.some.injEq] at h; subst h
    refine ⟨?_, fun bo x y => by cases bo <;> rfl, rfl, rfl⟩
    rw [run_equal_step]; unfold Op.equalIn; simp [run_und hu]
  · cases h

theorem lop_binOp {bo : BinOp} {t t' : TypeId} {x y : Operand} {d : Option Tmp} {ty : TypeId} {pos : String} {aft : Array Edge} {g : Option (Nat × Bool)}
    (h : lop P c getO ev ⟨d, .binOp bo t x y t', ty, pos, aft, g⟩ = some ⟨v, ob, rd⟩) (hO : ∀ z ∈ (Op.binOp bo t x y t').operands, V κ φ (ev z) (ρ z)) :
    LOk κ P φ c ρ w ⟨d, .binOp bo t x y t', ty, pos, aft, g⟩ v ob := by
  simp only [lop] at h
  have hx := hO x (by simp [Op.operands])
  have hy := hO y (by simp [Op.operands])
  split at h
  · rename_i haf
    simp only [Bool.and_eq_true] at haf
    have ex := hx.eq_of_af haf.1
    have ey := hy.eq_of_af haf.2
    exact lok_pure (s := do eqGuard bo t x y (ev x) (ev y); binOp bo t (ev x) (ev y)) (by simp only [execOp, ex, ey]) h
  · split at h
    · rename_i u hu
      simp only [Option.some.injEq, LR.mk.injEq] at h
      obtain ⟨rfl, rfl, rfl⟩ := h
      unfold opBinNil at hu
      split at hu
      · rename_i r hr
        simp only [Option.some.injEq] at hu; subst hu
        obtain ⟨h1, h2, h3, h4⟩ := nilEq_sound (w := w) hr hx hy
        exact ⟨.bool r, w, run_v (s := do eqGuard .eql t x y (ρ x) (ρ y); binOp .eql t (ρ x) (ρ y)) (by rw [Sem.run_bind, h2, Result.andThen_ok, h3]; simp [h1]), rfl, .af rfl⟩
      · rename_i r hr
        simp only [Option.some.injEq] at hu; subst hu
        obtain ⟨h1, h2, h3, h4⟩ := nilEq_sound (w := w) hr hx hy
        exact ⟨.bool (!r), w, run_v (s := do eqGuard .neq t x y (ρ x) (ρ y); binOp .neq t (ρ x) (ρ y)) (by rw [Sem.run_bind, h2, Result.andThen_ok, h4]; simp [h1]), rfl, .af rfl⟩
      · cases hu
    · cases h

theorem lop_makeInterface {t : TypeId} {x : Operand} {d : Option Tmp} {ty : TypeId} {pos : String} {aft : Array Edge} {g : Option (Nat × Bool)}
    (h : lop P c getO ev ⟨d, .makeInterface t x, ty, pos, aft, g⟩ = some ⟨v, ob, rd⟩) (hO : ∀ y ∈ (Op.makeInterface t x).operands, V κ φ (ev y) (ρ y)) : LOk κ P φ c ρ w ⟨d, .makeInterface t x, ty, pos, aft, g⟩ v ob := by
  simp only [lop] at h
  have hx := hO x (by simp [Op.operands])
  split at h
  · cases h
  · rename_i dd hni hd
    simp only [Option.some.injEq, LR.mk.injEq] at h
    obtain ⟨rfl, rfl, rfl⟩ := h
    refine ⟨_, w, run_v (s := Instr.makeInterface t (ρ x)) (v := .iface t (ρ x)) ?_, rfl, .iface hx⟩
    unfold Instr.makeInterface
    rw [Sem.run_bind, run_und hd]
    cases dd <;> first | rfl | exact (hni _ rfl).elim
  · cases h
theorem VL.map_op {l : List Operand} (h : ∀ x ∈ l, V κ φ (ev x) (ρ x)) : VL κ φ (l.map ev) (l.map ρ) := by
  induction l with
  | nil => exact .nil
  | cons x l ih => exact .cons (h x (by simp)) (ih fun y hy => h y (by simp [hy]))
theorem lop_makeFunc {fn : Fn} {first cap : Array Operand} {d : Option Tmp} {ty : TypeId} {pos : String} {aft : Array Edge} {g : Option (Nat × Bool)}
    (h : lop P c getO ev ⟨d, .makeFunc fn first cap, ty, pos, aft, g⟩ = some ⟨v, ob, rd⟩) (hO : ∀ y ∈ (Op.makeFunc fn first cap).operands, V κ φ (ev y) (ρ y)) : LOk κ P φ c ρ w ⟨d, .makeFunc fn first cap, ty, pos, aft, g⟩ v ob := by
  simp only [lop] at h
  split at h
  · rename_i hn
    simp only [Option.some.injEq, LR.mk.injEq] at h
    obtain ⟨rfl, rfl, rfl⟩ := h
    obtain ⟨fl⟩ := first
    obtain ⟨cl⟩ := cap
    refine ⟨_, w, run_v (s := Instr.makeFunc fn ((⟨fl⟩ : Array Operand).map ρ) ((⟨cl⟩ : Array Operand).map ρ)) rfl, rfl, ?_⟩
    simp only [List.map_toArray]
    exact .fn hn (VL.map_op fun y hy => hO y (by simp [Op.operands, hy])) (VL.map_op fun y hy => hO y (by simp [Op.operands, hy]))
  · cases h
theorem lop_unOp {u : UnOp} {t : TypeId} {x : Operand} {d : Option Tmp} {ty : TypeId} {pos : String} {aft : Array Edge} {g : Option (Nat × Bool)}
    (h : lop P c getO ev ⟨d, .unOp u t x, ty, pos, aft, g⟩ = some ⟨v, ob, rd⟩) (hO : ∀ y ∈ (Op.unOp u t x).operands, V κ φ (ev y) (ρ y)) : LOk κ P φ c ρ w ⟨d, .unOp u t x, ty, pos, aft, g⟩ v ob := by
  simp only [lop] at h
  have hx := hO x (by simp [Op.operands])
  split at h
  · rename_i haf
    have e := hx.eq_of_af haf
    exact lok_pure (s := Op.unary u (ev x)) (by simp [execOp, e]) h
  · cases h
theorem lop_extract {x : Operand} {i : Nat} {d : Option Tmp} {ty : TypeId} {pos : String} {aft : Array Edge} {g : Option (Nat × Bool)}
    (h : lop P c getO ev ⟨d, .extract x i, ty, pos, aft, g⟩ = some ⟨v, ob, rd⟩) (hO : ∀ y ∈ (Op.extract x i).operands, V κ φ (ev y) (ρ y)) : LOk κ P φ c ρ w ⟨d, .extract x i, ty, pos, aft, g⟩ v ob := by
  simp only [lop] at h
  have hx := hO x (by simp [Op.operands])
  split at h
  · rename_i vs e
    split at h
    · rename_i u hu
      simp only [Option.some.injEq, LR.mk.injEq] at h
      obtain ⟨rfl, rfl, rfl⟩ := h
      rw [e] at hx
      obtain ⟨l⟩ := vs
      obtain ⟨l', hr, hl⟩ := hx.tupleI
      obtain ⟨u', hu', hV⟩ := hl.get (by simpa using hu)
      exact ⟨u', w, run_v (s := Instr.extract (ρ x) i) (by simp [hr, Instr.extract, hu']), rfl, hV⟩
    · cases h
  · cases h
theorem addr_add (β a j : Nat) : (⟨β, a, none⟩ : Addr).add j = ⟨β, a + j, none⟩ := by
  unfold Addr.add; split <;> simp_all
theorem lop_fieldAddr {s : TypeId} {x : Operand} {f : Nat} {d : Option Tmp} {ty : TypeId} {pos : String} {aft : Array Edge} {g : Option (Nat × Bool)}
    (h : lop P c getO ev ⟨d, .fieldAddr s x f, ty, pos, aft, g⟩ = some ⟨v, ob, rd⟩) (hO : ∀ y ∈ (Op.fieldAddr s x f).operands, V κ φ (ev y) (ρ y)) : LOk κ P φ c ρ w ⟨d, .fieldAddr s x f, ty, pos, aft, g⟩ v ob := by
  simp only [lop] at h
  have hx := hO x (by simp [Op.operands])
  split at h
  · rename_i b off e
    split at h
    · rename_i fs hfs
      split at h
      · rename_i fd hfd
        split at h
        · rename_i n hn
          simp only [Option.some.injEq, LR.mk.injEq] at h
          obtain ⟨rfl, rfl, rfl⟩ := h
          rw [e] at hx
          obtain ⟨_, p, hp, hr⟩ := hx.ptrI
          refine ⟨.pointer (some ⟨p.β, p.o + (off + fd.offset), none⟩), w, run_v (s := Instr.fieldAt s (ρ x) f) ?_, rfl, .ptr hp⟩
          simp [Instr.fieldAt, run_und hfs, hfd, hr, Instr.sureAddr, fieldPlace, run_sizeT hn, addr_add, Nat.add_assoc]
        · cases h
      · cases h
    · cases h
  · cases h
theorem lop_indexAddr {t : TypeId} {x ix : Operand} {d : Option Tmp} {ty : TypeId} {pos : String} {aft : Array Edge} {g : Option (Nat × Bool)}
    (h : lop P c getO ev ⟨d, .indexAddr t x ix, ty, pos, aft, g⟩ = some ⟨v, ob, rd⟩) (hO : ∀ y ∈ (Op.indexAddr t x ix).operands, V κ φ (ev y) (ρ y)) : LOk κ P φ c ρ w ⟨d, .indexAddr t x ix, ty, pos, aft, g⟩ v ob := by
  simp only [lop] at h
  have hx := hO x (by simp [Op.operands])
  have hi := hO ix (by simp [Op.operands])
  split at h
  · rename_i k i ei
    rw [ei] at hi
    split at h
    · rename_i h0
      have h0' : 0 ≤ i := of_decide_eq_true h0
      split at h
      · rename_i el b off len cp hu e
        split at h
        · rename_i sz hsz hlt
          simp only [Option.some.injEq, LR.mk.injEq] at h
          obtain ⟨rfl, rfl, rfl⟩ := h
          have hlt' : i.toNat < len := Nat.le_of_ble_eq_true hlt
          rw [e] at hx
          obtain ⟨rfl, _, p, o', cap, hp, ho, hle, hb, hr⟩ := hx.slI
          have hoo : o' = p.o + off := ho (by omega)
          subst hoo
          refine ⟨.pointer (some ⟨p.β, p.o + (off + i.toNat * sz), none⟩), w, run_v (s := Instr.indexAt t (ρ x) (ρ ix)) ?_, rfl, .ptr hp⟩
          have hc : 0 ≤ i ∧ i < (len : Int) := ⟨h0', by omega⟩
          simp [Instr.indexAt, hi.int, asIntOf, run_und hu, hr, hc, run_sizeT hsz, addr_add, Nat.add_assoc]
        · cases h
      · rename_i len el b off hu e
        split at h
        · rename_i sz hsz hlt
          simp only [Option.some.injEq, LR.mk.injEq] at h
          obtain ⟨rfl, rfl, rfl⟩ := h
          have hlt' : i.toNat < len := Nat.le_of_ble_eq_true hlt
          rw [e] at hx
          obtain ⟨_, p, hp, hr⟩ := hx.ptrI
          refine ⟨.pointer (some ⟨p.β, p.o + (off + i.toNat * sz), none⟩), w, run_v (s := Instr.indexAt t (ρ x) (ρ ix)) ?_, rfl, .ptr hp⟩
          have hc : 0 ≤ i ∧ i < (len : Int) := ⟨h0', by omega⟩
          simp [Instr.indexAt, hi.int, asIntOf, run_und hu, hr, Instr.sureAddr, hc, run_sizeT hsz, addr_add, Nat.add_assoc]
        · cases h
      · cases h
    · cases h
  · cases h
theorem lop_typeAssert {x : Operand} {xt at_ : TypeId} {ok : Bool} {d : Option Tmp} {ty : TypeId} {pos : String} {aft : Array Edge} {g : Option (Nat × Bool)}
    (h : lop P c getO ev ⟨d, .typeAssert x xt at_ ok, ty, pos, aft, g⟩ = some ⟨v, ob, rd⟩) (hO : ∀ y ∈ (Op.typeAssert x xt at_ ok).operands, V κ φ (ev y) (ρ y)) : LOk κ P φ c ρ w ⟨d, .typeAssert x xt at_ ok, ty, pos, aft, g⟩ v ob := by
  simp only [lop] at h
  have hx := hO x (by simp [Op.operands])
  split at h
  · rename_i t u e
    rw [e] at hx
    obtain ⟨u', hr, hV⟩ := hx.ifaceI
    split at h
    · cases h
    · rename_i dd hni hd
      have key : ∀ r : Value, ((if t = at_ then (pure (if ok then .tuple #[u', .bool true] else u') : Sem Value) else (do if ok then pure (.tuple #[← zeroValue at_, .bool false]) else runtimePanic (.typeAssertion (some xt) (some t) at_ ""))).run P w = .ok r w) →
          (Instr.typeAssert (ρ x) xt at_ ok).run P w = .ok r w := by
        intro r hrr
        unfold Instr.typeAssert
        rw [hr]
        simp only [Sem.run_bind, run_und hd, Result.andThen_ok]
        cases dd <;> first | exact hrr | exact absurd hd (hni _)
      split at h
      · rename_i hb
        simp only [Option.some.injEq, LR.mk.injEq] at h
        obtain ⟨rfl, rfl, rfl⟩ := h
        have hta : t = at_ := Nat.eq_of_beq_eq_true hb
        exact ⟨.tuple ⟨[u', .bool true]⟩, w, run_v (key _ (by simp [hta])), rfl, .tuple (.cons hV (.cons (.af rfl) .nil))⟩
      · rename_i hb
        simp only [Option.some.injEq, LR.mk.injEq] at h
        obtain ⟨rfl, rfl, rfl⟩ := h
        have hta : t = at_ := Nat.eq_of_beq_eq_true hb
        exact ⟨u', w, run_v (key _ (by simp [hta])), rfl, hV⟩
      · rename_i z hb hz
        simp only [Option.some.injEq, LR.mk.injEq] at h
        obtain ⟨rfl, rfl, rfl⟩ := h
        have hta : ¬ t = at_ := fun e => by subst e; rw [Nat.beq_refl] at hb; cases hb
        refine ⟨.tuple ⟨[z, .bool false]⟩, w, run_v (key _ (by simp [hta, run_zeroT hz])), rfl, .tuple (.cons (.af (zeroT_spec hz).choose_spec.2.2) (.cons (.af rfl) .nil))⟩
      · cases h
    · cases h
  · cases h
end
end Go.Qe
end
section
set_option linter.unusedVariables false
set_option linter.unusedSimpArgs false
namespace Go.Qe
section
variable {κ : Nat → Value} {P : Program} {φ : Phi} {c : Nat} {getO : Nat → Option CObj} {ev ρ : Operand → Value} {w : World} {v : Value} {ob : Option CObj} {rd : List Nat}

theorem prun_bind {α β : Type} (m : Sem α) (f : α → Sem β) : prun P (m >>= f) = (prun P m).bind fun a => prun P (f a) := by
  show prun P (m.bind f) = _
  induction m with
  | pure a => rfl
  | program k ih => exact ih P
  | mark m k ih => exact ih
  | _ => rfl

/-- Parts of a literal, one by one. -/
inductive PL (κ : Nat → Value) (φ : Phi) : List (Nat × Value) → List (Nat × Value) → Prop
  | nil : PL κ φ [] []
  | cons {i : Nat} {u u' : Value} {l l' : List (Nat × Value)} : V κ φ u u' → PL κ φ l l' → PL κ φ ((i, u) :: l) ((i, u') :: l')

theorem foldl_set {l l' : List Value} (h : VL κ φ l l') : ∀ (k off : Nat) (cs cs' : Array Value), VL κ φ cs.toList cs'.toList →
    VL κ φ ((l.zipIdx k).foldl (fun cs (p : Value × Nat) => cs.setIfInBounds (off + p.2) p.1) cs).toList ((l'.zipIdx k).foldl (fun cs (p : Value × Nat) => cs.setIfInBounds (off + p.2) p.1) cs').toList := by
  induction l generalizing l' with
  | nil => cases h; intro k off cs cs' hc; exact hc
  | cons u l ih =>
    cases h with
    | cons a b =>
      intro k off cs cs' hc
      simp only [List.zipIdx_cons, List.foldl_cons]
      exact ih b (k + 1) off _ _ (by simp only [Array.toList_setIfInBounds]; exact hc.set _ a)

theorem fill_rel {place : Nat → Option (Nat × Nat)} {ps ps' : List (Nat × Value)} (hp : PL κ φ ps ps') : ∀ (cs cs' out : Array Value), VL κ φ cs.toList cs'.toList →
    Instr.fill place cs ps = some out → ∃ out', Instr.fill place cs' ps' = some out' ∧ VL κ φ out.toList out'.toList := by
  induction hp with
  | nil => intro cs cs' out hc h; simp only [Instr.fill, Option.some.injEq] at h; subst h; exact ⟨cs', rfl, hc⟩
  | @cons i u u' l l' hV hl ih =>
    intro cs cs' out hc h
    simp only [Instr.fill] at h ⊢
    cases hpl : place i with
    | none => simp [hpl] at h
    | some q =>
      obtain ⟨off, size⟩ := q
      simp only [hpl] at h ⊢
      have hcl := hV.cells
      have h1 : u'.cells.size = u.cells.size := by have := hcl.length; simpa using this
      have h2 : cs'.size = cs.size := by have := hc.length; simpa using this
      rw [h1, h2]
      split at h
      · cases h
      · rename_i hcond
        rw [if_neg hcond]
        refine ih _ _ out ?_ h
        have := foldl_set hcl 0 off cs cs' hc
        have e1 : ∀ (a : Array Value) (cs : Array Value), (Array.foldl (fun cs x => cs.setIfInBounds (off + x.2) x.1) cs a.zipIdx) = (a.toList.zipIdx 0).foldl (fun cs (p : Value × Nat) => cs.setIfInBounds (off + p.2) p.1) cs := by
          intro a cs
          rw [← Array.foldl_toList]; simp
        rw [e1, e1]; exact this

theorem PL.of_map {l : List (Nat × Operand)} (hV : ∀ p ∈ l, V κ φ (ev p.2) (ρ p.2)) (hn : ∀ p ∈ l, noChan (ev p.2) = true) : PL κ φ (l.map fun p => (p.1, ev p.2)) (l.map fun p => (p.1, ρ p.2)) := by
  induction l with
  | nil => exact .nil
  | cons p l ih =>
    obtain ⟨i, x⟩ := p
    exact .cons (hV (i, x) (by simp)) (ih (fun p hp => hV p (by simp [hp])) fun p hp => hn p (by simp [hp]))

theorem lop_build {t : TypeId} {parts : Array (Nat × Operand)} {d : Option Tmp} {ty : TypeId} {pos : String} {aft : Array Edge} {g : Option (Nat × Bool)}
    (h : lop P c getO ev ⟨d, .build t parts, ty, pos, aft, g⟩ = some ⟨v, ob, rd⟩) (hO : ∀ y ∈ (Op.build t parts).operands, V κ φ (ev y) (ρ y)) : LOk κ P φ c ρ w ⟨d, .build t parts, ty, pos, aft, g⟩ v ob := by
  simp only [lop] at h
  split at h
  · rename_i z hn hz
    split at h
    · rename_i u hu
      simp only [Option.some.injEq, LR.mk.injEq] at h
      obtain ⟨rfl, rfl, rfl⟩ := h
      obtain ⟨pl⟩ := parts
      have hPL : PL κ φ (pl.map fun p => (p.1, ev p.2)) (pl.map fun p => (p.1, ρ p.2)) := by
        refine PL.of_map (fun p hp => hO p.2 ?_) (fun p hp => ?_)
        · simp only [Op.operands]; simpa using ⟨p.1, hp⟩
        · have := hn; simp only [List.all_toArray, List.all_eq_true] at this; exact this p hp
      obtain ⟨ii, hi, hzz, haf⟩ := zeroT_spec hz
      simp only [List.map_toArray] at hu
      have hu : prun P (Instr.build t ⟨pl.map fun p => (p.1, ev p.2)⟩) = some u := hu
      unfold Instr.build at hu
      rw [prun_bind] at hu
      have hz0 : prun P (zeroValue t) = some z := by
        unfold zeroValue typeInfo
        rw [prun_bind, prun_bind]
        show (Option.bind (prun P (match P.info? t with | some i => pure i | none => stuck "no such type")) _) = _
        rw [hi]
        show prun P (match ii.zero with | some v => pure v | none => unsupported (.resourceLimit "a value of more than 2^22 cells")) = _
        rw [hzz]; rfl
      rw [hz0, Option.bind_some, prun_bind] at hu
      cases hun : P.underlying t with
      | none =>
        have hun0 : prun P (underlying t) = none := by
          unfold underlying
          rw [prun_bind]
          show prun P (match P.underlying t with | some d => pure d | none => stuck "no such type") = _
          rw [hun]; rfl
        rw [hun0] at hu; cases hu
      | some dd =>
        have hun0 : prun P (underlying t) = some dd := by
          unfold underlying
          rw [prun_bind]
          show prun P (match P.underlying t with | some d => pure d | none => stuck "no such type") = _
          rw [hun]; rfl
        rw [hun0, Option.bind_some] at hu
        have main : ∃ u', (Instr.build t ⟨pl.map fun p => (p.1, ρ p.2)⟩).run P w = .ok u' w ∧ V κ φ u u' := by
          unfold Instr.build
          simp only [Sem.run_bind, run_zeroT hz, Result.andThen_ok, run_und hun]
          cases dd with
          | struct fields =>
            simp only at hu ⊢
            rw [prun_bind] at hu
            cases hm : prun P (fields.mapM fun f => do pure (f.offset, ← sizeOf f.type)) with
            | none => rw [hm] at hu; cases hu
            | some places =>
              rw [hm, Option.bind_some] at hu
              rw [Sem.run_bind, prun_run _ w hm, Result.andThen_ok]
              cases hf : Instr.fill (places[·]?) z.cells (pl.map fun p => (p.1, ev p.2)) with
              | none => rw [hf] at hu; cases hu
              | some out =>
                obtain ⟨out', ho, hV⟩ := fill_rel hPL z.cells z.cells out (VL.refl (afL_cells haf)) hf
                rw [hf] at hu
                have : u = .agg out := (Option.some.inj hu).symm
                subst this
                rw [ho]
                exact ⟨.agg out', rfl, by obtain ⟨o1⟩ := out; obtain ⟨o2⟩ := out'; exact .agg hV⟩
          | array len elem =>
            simp only at hu ⊢
            rw [prun_bind] at hu
            cases hm : prun P (sizeOf elem) with
            | none => rw [hm] at hu; cases hu
            | some size =>
              rw [hm, Option.bind_some] at hu
              rw [Sem.run_bind, prun_run _ w hm, Result.andThen_ok]
              cases hf : Instr.fill (fun i => some (i * size, size)) z.cells (pl.map fun p => (p.1, ev p.2)) with
              | none => rw [hf] at hu; cases hu
              | some out =>
                obtain ⟨out', ho, hV⟩ := fill_rel hPL z.cells z.cells out (VL.refl (afL_cells haf)) hf
                rw [hf] at hu
                have : u = .agg out := (Option.some.inj hu).symm
                subst this
                rw [ho]
                exact ⟨.agg out', rfl, by obtain ⟨o1⟩ := out; obtain ⟨o2⟩ := out'; exact .agg hV⟩
          | _ => cases hu
        obtain ⟨u', hr, hV⟩ := main
        exact ⟨u', w, run_v (s := Instr.build t ((⟨pl⟩ : Array (Nat × Operand)).map fun (i, x) => (i, ρ x))) (by simpa using hr), rfl, hV⟩
    · cases h
  · cases h

theorem af_get {z : Array Value} (h : afL z.toList = true) (j : Nat) : af z[j]! = true := by
  obtain ⟨l⟩ := z
  simp only at h
  induction l generalizing j with
  | nil => rfl
  | cons u l ih =>
    simp only [afL, Bool.and_eq_true] at h
    cases j with
    | zero => exact h.1
    | succ j => simpa using ih j h.2
theorem afL_zeros {z : Array Value} (h : afL z.toList = true) (n : Nat) : afL (zeros z n) = true := by
  unfold zeros
  generalize List.range n = l
  induction l with
  | nil => rfl
  | cons j l ih => simp only [List.map_cons, afL, af_get h, ih, Bool.and_self]
theorem zeros_length (z : Array Value) (n : Nat) : (zeros z n).length = n := by simp [zeros]

theorem foldl_set_size (off : Nat) (l : List (Value × Nat)) : ∀ a : Array Value, (l.foldl (fun cs x => cs.setIfInBounds (off + x.2) x.1) a).size = a.size := by
  induction l with
  | nil => intro a; rfl
  | cons q l ih => intro a; simp only [List.foldl_cons, ih, Array.size_setIfInBounds]
theorem fill_size (pl : Nat → Option (Nat × Nat)) (ps : List (Nat × Value)) : ∀ (a b : Array Value), Instr.fill pl a ps = some b → b.size = a.size := by
  induction ps with
  | nil => intro a b e; simp only [Instr.fill, Option.some.injEq] at e; rw [e]
  | cons p ps ih =>
    intro a b e
    obtain ⟨i, u⟩ := p
    simp only [Instr.fill] at e
    split at e
    · cases e
    · split at e
      · cases e
      · rw [ih _ _ e, ← Array.foldl_toList]; exact foldl_set_size _ _ _
theorem run_buildSlice {t el : TypeId} {len sz : Nat} {z : Value} {parts : Array (Nat × Value)} {out : Array Value} (hu : P.underlying t = some (.slice el)) (hsz : sizeT P el = some sz) (hz : zeroT P el = some z)
    (hb : len * sz ≤ 100000) (ho : Instr.fill (fun i => some (i * sz, sz)) ⟨zeros z.cells (len * sz)⟩ parts.toList = some out) :
    (Instr.buildSlice t len parts).run P w = .ok (.slice (some ⟨w.heap.size, 0, none⟩) len len) { w with heap := w.heap.push (.cells out el) } := by
  unfold Instr.buildSlice
  rw [Sem.run_bind, run_und hu, Result.andThen_ok]
  show (do let size ← sizeOf el; _ : Sem Value).run P w = _
  rw [Sem.run_bind, run_sizeT hsz, Result.andThen_ok]
  rw [if_neg (by omega)]
  by_cases h0 : len * sz = 0
  · rw [if_pos h0]
    have e0 : Array.map (fun x => (#[] : Array Value)[x % (#[] : Array Value).size]!) (Array.range (len * sz)) = ⟨zeros z.cells (len * sz)⟩ := by rw [h0]; apply Array.ext'; simp [zeros]
    show (match Instr.fill (fun i => some (i * sz, sz)) (Array.map (fun x => (#[] : Array Value)[x % (#[] : Array Value).size]!) (Array.range (len * sz))) parts.toList with
      | some cells => (do pure (Value.slice (some (← newRow el cells)) len len) : Sem Value)
      | _ => stuck "buildSlice: a part of the wrong size").run P w = _
    rw [e0, ho]
    simp [run_newRow]
  · rw [if_neg h0, Sem.run_bind, run_zeroT hz, Result.andThen_ok]
    have e0 : Array.map (fun x => z.cells[x % z.cells.size]!) (Array.range (len * sz)) = ⟨zeros z.cells (len * sz)⟩ := by
      unfold zeros; apply Array.ext'; simp
    simp only [Sem.run_bind, Sem.run_pure, Result.andThen_ok]
    rw [e0, ho]
    simp [run_newRow]

theorem lop_buildSlice {t : TypeId} {len : Nat} {parts : Array (Nat × Operand)} {d : Option Tmp} {ty : TypeId} {pos : String} {aft : Array Edge} {g : Option (Nat × Bool)}
    (h : lop P c getO ev ⟨d, .buildSlice t len parts, ty, pos, aft, g⟩ = some ⟨v, ob, rd⟩) (hO : ∀ y ∈ (Op.buildSlice t len parts).operands, V κ φ (ev y) (ρ y)) (hc : ob ≠ none → φ c = none) :
    LOk κ P φ c ρ w ⟨d, .buildSlice t len parts, ty, pos, aft, g⟩ v ob := by
  simp only [lop] at h
  split at h
  · rename_i el hu hn
    split at h
    · rename_i sz z hsz hz
      split at h
      · rename_i hb hzs
        have hb' := Nat.le_of_ble_eq_true hb
        obtain ⟨ii, hi, hzz, haf⟩ := zeroT_spec hz
        obtain ⟨_, _, _, hco⟩ := info_of_sizeT hsz
        obtain ⟨pl⟩ := parts
        simp only [List.map_toArray] at h
        have hPL : PL κ φ (pl.map fun p => (p.1, ev p.2)) (pl.map fun p => (p.1, ρ p.2)) := by
          refine PL.of_map (fun p hp => hO p.2 ?_) (fun p hp => ?_)
          · simp only [Op.operands]; simpa using ⟨p.1, hp⟩
          · have := hn; simp only [List.all_toArray, List.all_eq_true] at this; exact this p hp
        split at h
        · rename_i cs hf
          have hf : Instr.fill (fun i => some (i * sz, sz)) ⟨zeros z.cells (len * sz)⟩ (pl.map fun p => (p.1, ev p.2)) = some cs := hf
          simp only [Option.some.injEq, LR.mk.injEq] at h
          obtain ⟨rfl, rfl, rfl⟩ := h
          obtain ⟨out', ho, hV⟩ := fill_rel hPL ⟨zeros z.cells (len * sz)⟩ ⟨zeros z.cells (len * sz)⟩ cs (VL.refl (afL_zeros (afL_cells haf) _)) hf
          have hos : out'.size = len * sz := by rw [fill_size _ _ _ _ ho]; simp [zeros_length]
          have hrun := run_buildSlice (w := w) (parts := ⟨pl.map fun p => (p.1, ρ p.2)⟩) hu hsz hz hb' ho
          have e0 : ((⟨pl⟩ : Array (Nat × Operand)).map fun (i, x) => (i, ρ x)) = ⟨pl.map fun p => (p.1, ρ p.2)⟩ := by rw [List.map_toArray]
          obtain ⟨ol⟩ := out'
          have hos' : ol.length = len * sz := by simpa using hos
          have hV2 : V κ (φ.upd c ⟨w.heap.size, 0, P.cellsOf el, ol.length⟩) (.slice (some ⟨c, 0, none⟩) len 0) (.slice (some ⟨w.heap.size, 0, none⟩) len len) := by
            refine V.sl (φ.upd_self c _) (fun _ => rfl) (Nat.le_refl _) ?_
            show 0 + len * P.cellsOf el ≤ ol.length
            rw [hco, hos']; omega
          have hL : LStep κ P φ c (some (.cells 0 el cs.toList)) (.slice (some ⟨c, 0, none⟩) len 0) w (.slice (some ⟨w.heap.size, 0, none⟩) len len) { w with heap := w.heap.push (.cells ⟨ol⟩ el) } := lstep_new (hc (by simp)) hV hV2
          have hE : (execOp ρ ⟨d, .buildSlice t len ⟨pl⟩, ty, pos, aft, g⟩).run P w = .ok (.value (.slice (some ⟨w.heap.size, 0, none⟩) len len)) { w with heap := w.heap.push (.cells ⟨ol⟩ el) } := by
            show (do pure (Next.value (← Instr.buildSlice t len ((⟨pl⟩ : Array (Nat × Operand)).map fun (i, x) => (i, ρ x)))) : Sem Next).run P w = _
            rw [e0]
            exact run_v hrun
          exact ⟨_, _, hE, hL⟩
        · cases h
      · cases h
    · cases h
  · cases h

theorem lop_index {t : TypeId} {x ix : Operand} {d : Option Tmp} {ty : TypeId} {pos : String} {aft : Array Edge} {g : Option (Nat × Bool)}
    (h : lop P c getO ev ⟨d, .index t x ix, ty, pos, aft, g⟩ = some ⟨v, ob, rd⟩) (hO : ∀ y ∈ (Op.index t x ix).operands, V κ φ (ev y) (ρ y)) : LOk κ P φ c ρ w ⟨d, .index t x ix, ty, pos, aft, g⟩ v ob := by
  simp only [lop] at h
  have hx := hO x (by simp [Op.operands])
  have hi := hO ix (by simp [Op.operands])
  split at h
  · rename_i haf
    simp only [Bool.and_eq_true] at haf
    exact lok_pure (s := Instr.index t (ev x) (ev ix)) (by simp only [execOp, hx.eq_of_af haf.1, hi.eq_of_af haf.2]) h
  · cases h
theorem lop_field {t : TypeId} {x : Operand} {f : Nat} {d : Option Tmp} {ty : TypeId} {pos : String} {aft : Array Edge} {g : Option (Nat × Bool)}
    (h : lop P c getO ev ⟨d, .field t x f, ty, pos, aft, g⟩ = some ⟨v, ob, rd⟩) (hO : ∀ y ∈ (Op.field t x f).operands, V κ φ (ev y) (ρ y)) : LOk κ P φ c ρ w ⟨d, .field t x f, ty, pos, aft, g⟩ v ob := by
  simp only [lop] at h
  have hx := hO x (by simp [Op.operands])
  split at h
  · rename_i haf
    exact lok_pure (s := Instr.field t (ev x) f) (by simp only [execOp, hx.eq_of_af haf]) h
  · cases h
end
end Go.Qe
end
section
set_option linter.unusedVariables false
set_option linter.unusedSimpArgs false
namespace Go.Qe
section
variable {κ : Nat → Value} {P : Program} {φ : Phi} {c : Nat} {getO : Nat → Option CObj} {ev ρ : Operand → Value} {w : World} {v : Value} {ob : Option CObj} {rd : List Nat}

theorem ML.length {es : List Value} {rs : List MapEntry} (h : ML κ φ es rs) : rs.length = es.length := by
  induction h with
  | nil => rfl
  | cons _ _ _ ih => simp [ih]
theorem ML.get {es : List Value} {rs : List MapEntry} (h : ML κ φ es rs) : ∀ {i : Nat} {e : Value}, es[i]? = some e → ∃ k u u' n, e = ment k u n ∧ af k = true ∧ V κ φ u u' ∧ rs[i]? = some ⟨k, u', n⟩ := by
  induction h with
  | nil => intro i e h; simp at h
  | cons a b _ ih =>
    intro i e h
    cases i with
    | zero => simp at h; subst h; exact ⟨_, _, _, _, rfl, a, b, rfl⟩
    | succ i => simpa using ih (by simpa using h)
theorem ML.append {es : List Value} {rs : List MapEntry} (h : ML κ φ es rs) {es' : List Value} {rs' : List MapEntry} (h' : ML κ φ es' rs') : ML κ φ (es ++ es') (rs ++ rs') := by
  induction h with
  | nil => exact h'
  | cons a b _ ih => exact .cons a b ih
theorem ML.set {es : List Value} {rs : List MapEntry} (h : ML κ φ es rs) {k u u' : Value} {n : Nat} (hk : af k = true) (hu : V κ φ u u') : ∀ (i : Nat), ML κ φ (es.set i (ment k u n)) (rs.set i ⟨k, u', n⟩) := by
  induction h with
  | nil => intro i; exact .nil
  | cons a b r ih => intro i; cases i with
    | zero => exact .cons hk hu r
    | succ i => exact .cons a b (ih i)
theorem ML.eraseIdx {es : List Value} {rs : List MapEntry} (h : ML κ φ es rs) : ∀ (i : Nat), ML κ φ (es.eraseIdx i) (rs.eraseIdx i) := by
  induction h with
  | nil => intro i; exact .nil
  | cons a b r ih => intro i; cases i with
    | zero => exact r
    | succ i => exact .cons a b (ih i)
theorem ML.keys {es : List Value} {rs : List MapEntry} (h : ML κ φ es rs) : (blank es).map (·.key) = rs.map (·.key) := by
  induction h with
  | nil => rfl
  | cons a b _ ih =>
    simp only [blank, List.map_cons] at ih ⊢
    rw [ih]; rfl

/-! ### Keys found -/
theorem findNow_keys (d : TypeDesc) (k : Value) : ∀ (l l' : List MapEntry) (i : Nat), l.map (·.key) = l'.map (·.key) → (Instr.findNow d k l i).map (Option.map Prod.fst) = (Instr.findNow d k l' i).map (Option.map Prod.fst)
  | [], [], _, _ => rfl
  | [], _ :: _, _, h => by simp at h
  | _ :: _, [], _, h => by simp at h
  | e :: l, e' :: l', i, h => by
    simp only [List.map_cons, List.cons.injEq] at h
    simp only [Instr.findNow, h.1]
    cases Instr.sameNow d k e'.key with
    | none => rfl
    | some b => cases b with
      | true => rfl
      | false => exact findNow_keys d k l l' (i + 1) h.2
theorem findNow_val (d : TypeDesc) (k : Value) : ∀ (l : List MapEntry) (i : Nat) {j : Nat} {u : Value}, Instr.findNow d k l i = some (some (j, u)) → i ≤ j ∧ ∃ e, l[j - i]? = some e ∧ e.val = u
  | [], _, _, _, h => by simp [Instr.findNow] at h
  | e :: l, i, j, u, h => by
    simp only [Instr.findNow] at h
    split at h
    · simp only [Option.some.injEq, Prod.mk.injEq] at h
      obtain ⟨rfl, rfl⟩ := h
      exact ⟨Nat.le_refl _, e, by simp, rfl⟩
    · obtain ⟨h1, e', h2, h3⟩ := findNow_val d k l (i + 1) h
      refine ⟨by omega, e', ?_, h3⟩
      rw [show j - i = (j - (i + 1)) + 1 from by omega]
      simpa using h2
    · cases h
theorem findAsk_keys (kt : TypeId) (k : Value) : ∀ (l l' : List MapEntry) (i : Nat) {r : Option (Nat × Value)}, l.map (·.key) = l'.map (·.key) → prun P (Instr.findAsking kt k l i) = some r → ∃ r', prun P (Instr.findAsking kt k l' i) = some r' ∧ r'.map Prod.fst = r.map Prod.fst
  | [], [], _, _, _, h => ⟨_, h, rfl⟩
  | [], _ :: _, _, _, h, _ => by simp at h
  | _ :: _, [], _, _, h, _ => by simp at h
  | e :: l, e' :: l', i, r, h, hr => by
    simp only [List.map_cons, List.cons.injEq] at h
    simp only [Instr.findAsking, prun_bind, h.1] at hr ⊢
    cases hq : prun P (Op.equal kt k e'.key) with
    | none => rw [hq] at hr; cases hr
    | some b =>
      rw [hq] at hr
      simp only [Option.bind_some] at hr ⊢
      cases b with
      | true =>
        simp only [if_true] at hr ⊢
        have : r = some (i, e.val) := by simpa [prun, Pure.pure, Sem.instMonad] using hr.symm
        subst this
        exact ⟨some (i, e'.val), rfl, rfl⟩
      | false =>
        simp only [Bool.false_eq_true, if_false] at hr ⊢
        exact findAsk_keys kt k l l' (i + 1) h.2 hr
theorem findAsk_val (kt : TypeId) (k : Value) : ∀ (l : List MapEntry) (i : Nat) {j : Nat} {u : Value}, prun P (Instr.findAsking kt k l i) = some (some (j, u)) → i ≤ j ∧ ∃ e, l[j - i]? = some e ∧ e.val = u
  | [], _, _, _, h => by simp [Instr.findAsking, prun, Pure.pure] at h
  | e :: l, i, j, u, h => by
    simp only [Instr.findAsking, prun_bind] at h
    cases hq : prun P (Op.equal kt k e.key) with
    | none => rw [hq] at h; cases h
    | some b =>
      rw [hq] at h
      simp only [Option.bind_some] at h
      cases b with
      | true =>
        simp only [if_true] at h
        have h2 : (some (i, e.val) : Option (Nat × Value)) = some (j, u) := by simpa [prun, Pure.pure] using h
        simp only [Option.some.injEq, Prod.mk.injEq] at h2
        obtain ⟨rfl, rfl⟩ := h2
        exact ⟨Nat.le_refl _, e, by simp, rfl⟩
      | false =>
        simp only [Bool.false_eq_true, if_false] at h
        obtain ⟨h1, e', h2, h3⟩ := findAsk_val kt k l (i + 1) h
        refine ⟨by omega, e', ?_, h3⟩
        rw [show j - i = (j - (i + 1)) + 1 from by omega]
        simpa using h2
theorem findKey_keys {kt : TypeId} {k : Value} {l l' : List MapEntry} {r : Option (Nat × Value)} (h : l.map (·.key) = l'.map (·.key)) (hr : prun P (Instr.findKey kt k l) = some r) :
    ∃ r', prun P (Instr.findKey kt k l') = some r' ∧ r'.map Prod.fst = r.map Prod.fst := by
  simp only [Instr.findKey, prun_bind] at hr ⊢
  cases hd : prun P (underlying kt) with
  | none => rw [hd] at hr; cases hr
  | some d =>
    rw [hd] at hr
    simp only [Option.bind_some] at hr ⊢
    have hk := findNow_keys d k l l' 0 h
    cases h1 : Instr.findNow d k l 0 with
    | none =>
      rw [h1] at hr hk
      have h2 : Instr.findNow d k l' 0 = none := by
        cases h2 : Instr.findNow d k l' 0 with
        | none => rfl
        | some x => rw [h2] at hk; cases hk
      rw [h2]
      exact findAsk_keys kt k l l' 0 h hr
    | some x =>
      rw [h1] at hr hk
      cases h2 : Instr.findNow d k l' 0 with
      | none => rw [h2] at hk; cases hk
      | some y =>
        rw [h2] at hk
        have hx : x = r := by simpa [prun, Pure.pure] using hr
        subst hx
        refine ⟨y, rfl, ?_⟩
        simpa using hk.symm
theorem findKey_val {kt : TypeId} {k : Value} {l : List MapEntry} {j : Nat} {u : Value} (hr : prun P (Instr.findKey kt k l) = some (some (j, u))) : ∃ e, l[j]? = some e ∧ e.val = u := by
  simp only [Instr.findKey, prun_bind] at hr
  cases hd : prun P (underlying kt) with
  | none => rw [hd] at hr; cases hr
  | some d =>
    rw [hd] at hr
    simp only [Option.bind_some] at hr
    cases h1 : Instr.findNow d k l 0 with
    | none =>
      rw [h1] at hr
      obtain ⟨_, e, h2, h3⟩ := findAsk_val kt k l 0 hr
      exact ⟨e, by simpa using h2, h3⟩
    | some x =>
      rw [h1] at hr
      have hx : x = some (j, u) := by simpa [prun, Pure.pure] using hr
      subst hx
      obtain ⟨_, e, h2, h3⟩ := findNow_val d k l 0 h1
      exact ⟨e, by simpa using h2, h3⟩
theorem findAt_none {kt : TypeId} {k : Value} {es : List Value} {rs : List MapEntry} (hM : ML κ φ es rs) (h : findAt P kt k es = some none) : prun P (Instr.findKey kt k rs) = some none := by
  unfold findAt at h
  split at h
  · cases h
  · rename_i hr
    obtain ⟨r', h1, h2⟩ := findKey_keys hM.keys hr
    cases r' with
    | none => exact h1
    | some x => cases h2
  · cases h
theorem findAt_some {kt : TypeId} {k : Value} {es : List Value} {rs : List MapEntry} {i : Nat} {e : Value} (hM : ML κ φ es rs) (h : findAt P kt k es = some (some i)) (he : es[i]? = some e) :
    ∃ k0 u u' n, e = ment k0 u n ∧ af k0 = true ∧ V κ φ u u' ∧ rs[i]? = some ⟨k0, u', n⟩ ∧ prun P (Instr.findKey kt k rs) = some (some (i, u')) := by
  obtain ⟨k0, u, u', n, h1, h2, h3, h4⟩ := hM.get he
  refine ⟨k0, u, u', n, h1, h2, h3, h4, ?_⟩
  unfold findAt at h
  split at h
  · rename_i i' u0 hr
    simp only [Option.some.injEq] at h
    subst h
    obtain ⟨r', g1, g2⟩ := findKey_keys hM.keys hr
    cases r' with
    | none => cases g2
    | some x =>
      obtain ⟨j, u1⟩ := x
      simp only [Option.map_some, Option.some.injEq] at g2
      subst g2
      obtain ⟨e2, q1, q2⟩ := findKey_val g1
      rw [h4] at q1
      cases q1
      rw [g1]
      exact congrArg (fun z => some (some (j, z))) q2.symm
  · cases h
  · cases h

theorem run_getMap {p : Pl} {es : List Value} {clock : Nat} {x : Obj} (hx : w.heap[p.β]? = some x) (ho : ObjR κ P φ (.map es clock) p x) :
    ∃ rs, ML κ φ es rs ∧ x = .map ⟨rs⟩ clock ∧ (getObj p.β).run P w = .ok (.map ⟨rs⟩ clock) w := by
  cases ho with
  | map h0 hM => exact ⟨_, hM, rfl, by simp [getObj, Sem.run, hx]⟩

theorem lop_makeMap {t : TypeId} {r : Option Operand} {d : Option Tmp} {ty : TypeId} {pos : String} {aft : Array Edge} {g : Option (Nat × Bool)}
    (h : lop P c getO ev ⟨d, .makeMap t r, ty, pos, aft, g⟩ = some ⟨v, ob, rd⟩) (hO : ∀ y ∈ (Op.makeMap t r).operands, V κ φ (ev y) (ρ y)) : LOk κ P φ c ρ w ⟨d, .makeMap t r, ty, pos, aft, g⟩ v ob := by
  have key : (Instr.makeMap t (r.map ρ)).run P w = .ok (.map (some w.heap.size)) { w with heap := w.heap.push (.map #[] 0) } → v = .map (some c) → ob = some (.map [] 0) → LOk κ P φ c ρ w ⟨d, .makeMap t r, ty, pos, aft, g⟩ v ob := by
    rintro hrun rfl rfl
    exact ⟨_, _, run_v (s := Instr.makeMap t (r.map ρ)) hrun, _, 0, 0, rfl, rfl, rfl, rfl, .map rfl .nil, .mp (φ.upd_self c _)⟩
  simp only [lop] at h
  split at h
  · simp only [Option.some.injEq, LR.mk.injEq] at h
    obtain ⟨rfl, rfl, rfl⟩ := h
    exact key (by simp [Instr.makeMap, newObj, Sem.run]) rfl rfl
  · rename_i x
    have hx := hO x (by simp [Op.operands])
    split at h
    · rename_i k el kk n hu e
      simp only [Option.some.injEq, LR.mk.injEq] at h
      obtain ⟨rfl, rfl, rfl⟩ := h
      rw [e] at hx
      have hx := hx.int
      exact key (by simp [Instr.makeMap, hx, run_und hu, asInt, asIntOf, newObj, Sem.run]) rfl rfl
    · cases h

theorem lop_lookup {t : TypeId} {x k : Operand} {ok : Bool} {d : Option Tmp} {ty : TypeId} {pos : String} {aft : Array Edge} {g : Option (Nat × Bool)}
    (h : lop P c getO ev ⟨d, .lookup t x k ok, ty, pos, aft, g⟩ = some ⟨v, ob, rd⟩) (hO : ∀ y ∈ (Op.lookup t x k ok).operands, V κ φ (ev y) (ρ y)) (hR : RdOk κ P φ getO rd w) : LOk κ P φ c ρ w ⟨d, .lookup t x k ok, ty, pos, aft, g⟩ v ob := by
  simp only [lop] at h
  have hx := hO x (by simp [Op.operands])
  have hk := hO k (by simp [Op.operands])
  split at h
  · rename_i kt el hu haf
    have hk := hk.eq_of_af haf
    split at h
    · rename_i es rd0 hes
      -- the entries in the world
      have hgo : rd = rd0 → ∃ rs : List MapEntry, ML κ φ es rs ∧ ((ρ x = .map none ∧ rs = []) ∨ ∃ m cl, ρ x = .map (some m) ∧ (getObj m).run P w = .ok (.map ⟨rs⟩ cl) w) := by
        rintro rfl
        split at hes
        · rename_i e
          simp only [Option.some.injEq, Prod.mk.injEq] at hes
          obtain ⟨rfl, rfl⟩ := hes
          rw [e] at hx
          exact ⟨[], .nil, .inl ⟨hx.mapN, rfl⟩⟩
        · rename_i b e
          split at hes
          · rename_i es0 cl hg
            simp only [Option.some.injEq, Prod.mk.injEq] at hes
            obtain ⟨rfl, rfl⟩ := hes
            rw [e] at hx
            obtain ⟨p, hp, hr⟩ := hx.mapI
            obtain ⟨r, xx, hp', hw, hxo⟩ := hR.at (by simp) hg hp
            rw [hp] at hp'; cases hp'
            obtain ⟨rs, hM, rfl, hgo⟩ := run_getMap (P := P) hw hxo
            exact ⟨rs, hM, .inr ⟨_, cl, hr, hgo⟩⟩
          · cases hes
        · cases hes
      split at h
      · rename_i i hck hfd
        split at h
        · rename_i e he
          simp only [Option.some.injEq, LR.mk.injEq] at h
          obtain ⟨rfl, rfl, rfl⟩ := h
          obtain ⟨rs, hM, hf⟩ := hgo rfl
          obtain ⟨k0, u, u', n, rfl, hk0, hV, hrs, hfk⟩ := findAt_some hM hfd he
          refine ⟨if ok then .tuple ⟨[u', .bool true]⟩ else u', w, run_v (s := Instr.lookup t (ρ x) (ρ k) ok) ?_, rfl, ?_⟩
          · have hemp : (⟨rs⟩ : Array MapEntry).isEmpty = es.isEmpty := by
              have := hM.length
              cases rs <;> cases es <;> simp_all
            rcases hf with ⟨e1, rfl⟩ | ⟨m, cl, e1, e2⟩
            · have hfk' : (Instr.findKey kt (ev k) (#[] : Array MapEntry).toList).run P w = .ok (some (i, u')) w := prun_run _ w hfk
              have hck' : (Instr.checkKey (#[] : Array MapEntry).isEmpty 10000 kt (ev k)).run P w = .ok () w := by rw [show (#[] : Array MapEntry).isEmpty = es.isEmpty from hemp]; exact prun_run _ w hck
              simp only [Instr.lookup, hk, e1, Sem.run_bind, run_und hu, Result.andThen_ok, Sem.run_pure, hck', hfk']
            · have hck' : (Instr.checkKey (⟨rs⟩ : Array MapEntry).isEmpty 10000 kt (ev k)).run P w = .ok () w := by rw [hemp]; exact prun_run _ w hck
              simp only [Instr.lookup, hk, e1, Sem.run_bind, run_und hu, Result.andThen_ok, e2, Sem.run_pure, hck', prun_run _ w hfk]
          · cases ok with
            | true => exact .tuple (.cons hV (.cons (.af rfl) .nil))
            | false => exact hV
        · cases h
      · rename_i hck hfd
        split at h
        · rename_i z hz
          simp only [Option.some.injEq, LR.mk.injEq] at h
          obtain ⟨rfl, rfl, rfl⟩ := h
          obtain ⟨rs, hM, hf⟩ := hgo rfl
          have hfk := findAt_none hM hfd
          obtain ⟨_, _, _, hzaf⟩ := zeroT_spec hz
          refine ⟨if ok then .tuple ⟨[z, .bool false]⟩ else z, w, run_v (s := Instr.lookup t (ρ x) (ρ k) ok) ?_, rfl, ?_⟩
          · have hemp : (⟨rs⟩ : Array MapEntry).isEmpty = es.isEmpty := by
              have := hM.length
              cases rs <;> cases es <;> simp_all
            rcases hf with ⟨e1, rfl⟩ | ⟨m, cl, e1, e2⟩
            · have hfk' : (Instr.findKey kt (ev k) (#[] : Array MapEntry).toList).run P w = .ok none w := prun_run _ w hfk
              have hck' : (Instr.checkKey (#[] : Array MapEntry).isEmpty 10000 kt (ev k)).run P w = .ok () w := by rw [show (#[] : Array MapEntry).isEmpty = es.isEmpty from hemp]; exact prun_run _ w hck
              simp only [Instr.lookup, hk, e1, Sem.run_bind, run_und hu, Result.andThen_ok, Sem.run_pure, hck', hfk', run_zeroT hz]
            · have hck' : (Instr.checkKey (⟨rs⟩ : Array MapEntry).isEmpty 10000 kt (ev k)).run P w = .ok () w := by rw [hemp]; exact prun_run _ w hck
              simp only [Instr.lookup, hk, e1, Sem.run_bind, run_und hu, Result.andThen_ok, e2, Sem.run_pure, hck', prun_run _ w hfk, run_zeroT hz]
          · cases ok with
            | true => exact .tuple (.cons (.af hzaf) (.cons (.af rfl) .nil))
            | false => exact .af hzaf
        · cases h
      · cases h
    · cases h
  · cases h

theorem lop_range {t : TypeId} {x : Operand} {d : Option Tmp} {ty : TypeId} {pos : String} {aft : Array Edge} {g : Option (Nat × Bool)}
    (h : lop P c getO ev ⟨d, .range t x, ty, pos, aft, g⟩ = some ⟨v, ob, rd⟩) (hO : ∀ y ∈ (Op.range t x).operands, V κ φ (ev y) (ρ y)) (hR : RdOk κ P φ getO rd w) (hc : ob ≠ none → φ c = none) : LOk κ P φ c ρ w ⟨d, .range t x, ty, pos, aft, g⟩ v ob := by
  simp only [lop] at h
  have hx := hO x (by simp [Op.operands])
  split at h
  · rename_i s hu e
    simp only [Option.some.injEq, LR.mk.injEq] at h
    obtain ⟨rfl, rfl, rfl⟩ := h
    rw [e] at hx
    refine ⟨_, { w with heap := w.heap.push (.stringIter s 0) }, run_v (s := Instr.range t (ρ x)) (v := .pointer (some ⟨w.heap.size, 0, none⟩)) ?_, _, 0, 0, rfl, rfl, rfl, rfl, .iter rfl, V_new rfl⟩
    simp [Instr.range, run_und hu, hx.string, newObj, Sem.run]
  · rename_i kt el hu e
    simp only [Option.some.injEq, LR.mk.injEq] at h
    obtain ⟨rfl, rfl, rfl⟩ := h
    rw [e] at hx
    refine ⟨_, { w with heap := w.heap.push (.mapIter none 0 #[] 0) }, run_v (s := Instr.range t (ρ x)) (v := .pointer (some ⟨w.heap.size, 0, none⟩)) ?_, _, 0, 0, rfl, rfl, rfl, rfl, .miter0 rfl, V_new rfl⟩
    simp [Instr.range, run_und hu, hx.mapN, newObj, Sem.run]
  · rename_i kt el b hu e
    split at h
    · rename_i es cl hg
      simp only [Option.some.injEq, LR.mk.injEq] at h
      obtain ⟨rfl, rfl, rfl⟩ := h
      rw [e] at hx
      obtain ⟨p, hp, hr⟩ := hx.mapI
      obtain ⟨r, xx, hp', hw, hxo⟩ := hR.at (by simp) hg hp
      rw [hp] at hp'; cases hp'
      obtain ⟨rs, hM, rfl, hgo⟩ := run_getMap (P := P) hw hxo
      have hne : b ≠ c := fun e => by subst e; rw [hc (by simp)] at hp; cases hp
      refine ⟨_, { w with heap := w.heap.push (.mapIter (some p.β) cl #[] cl) }, run_v (s := Instr.range t (ρ x)) (v := .pointer (some ⟨w.heap.size, 0, none⟩)) ?_, _, 0, 0, rfl, rfl, rfl, rfl, .miter rfl ((φ.upd_ne _ hne).trans hp), V_new rfl⟩
      simp [Instr.range, run_und hu, hr, hgo, newObj, Sem.run]
    · cases h
  · cases h
end
end Go.Qe
end
section
set_option linter.unusedVariables false
set_option linter.unusedSimpArgs false
namespace Go.Qe
section
variable {κ : Nat → Value} {P : Program} {φ : Phi} {c : Nat} {getO : Nat → Option CObj} {ev ρ : Operand → Value} {w : World} {v : Value} {ob : Option CObj} {rd : List Nat}

theorem bytesOf_spec {l : List Value} : ∀ {bs : List UInt8}, bytesOf l = some bs → ∃ ns : List Int, l = ns.map (Value.int .u8) ∧ bs = ns.map fun n => UInt8.ofNat n.toNat := by
  induction l with
  | nil => intro bs h; simp only [bytesOf, Option.some.injEq] at h; subst h; exact ⟨[], rfl, rfl⟩
  | cons u l ih =>
    intro bs h
    cases u with
    | int k n =>
      cases k <;> simp only [bytesOf, reduceCtorEq] at h
      split at h
      · rename_i r hr
        simp only [Option.some.injEq] at h; subst h
        obtain ⟨ns, rfl, rfl⟩ := ih hr
        exact ⟨n :: ns, rfl, rfl⟩
      · cases h
    | _ => simp [bytesOf] at h
theorem afL_ints (k : IntKind) (ns : List Int) : afL (ns.map (Value.int k)) = true := by
  induction ns with
  | nil => rfl
  | cons n ns ih => simp only [List.map_cons, afL, af, ih, Bool.and_self]
theorem foldl_push (ns : List Int) : ∀ r : ByteArray, ns.foldl (fun r n => r.push (UInt8.ofNat n.toNat)) r = ⟨r.data ++ (ns.map fun n => UInt8.ofNat n.toNat).toArray⟩ := by
  induction ns with
  | nil => intro r; simp
  | cons n ns ih => intro r; simp only [List.foldl_cons, ih]; simp [ByteArray.push]

/-- The cells of a slice as the world has them. -/
theorem slice_cells2 {cs rs : List Value} {o len sz : Nat} {r : Pl} {e : TypeId} {fz : Nat × Nat} {o' : Nat} (hlen : o + len * sz ≤ cs.length) (hw : w.heap[r.β]? = some (.cells ⟨rs⟩ e fz))
    (hV : VL κ φ cs ((rs.drop r.o).take cs.length)) (ho : len * sz ≠ 0 → o' = r.o + o) :
    (loadCells ⟨r.β, o', none⟩ (len * sz)).run P w = .ok ⟨(((rs.drop r.o).take cs.length).drop o).take (len * sz)⟩ w := by
  have hsub := (hV.drop o).take (len * sz)
  have hl2 : ((((rs.drop r.o).take cs.length).drop o).take (len * sz)).length = len * sz := by
    rw [hsub.length]; simp; omega
  have hl := run_loadCells_list (P := P) w ⟨r.β, o', none⟩ ((((rs.drop r.o).take cs.length).drop o).take (len * sz)) (fun j v' hj => by
    have hne : len * sz ≠ 0 := by
      intro h0; rw [h0] at hj; simp at hj
    rw [ho hne, addr_add]
    have h1 : ((rs.drop r.o).take cs.length)[o + j]? = some v' := by
      rw [List.getElem?_take] at hj
      split at hj
      · rwa [List.getElem?_drop] at hj
      · cases hj
    have h2 : rs[r.o + (o + j)]? = some v' := by
      rw [List.getElem?_take] at h1
      split at h1
      · rwa [List.getElem?_drop] at h1
      · cases h1
    rw [← Nat.add_assoc] at h2
    simp [World.cell?, hw, h2])
  rw [hl2] at hl
  exact hl
theorem slice_cells {cs rs : List Value} {o len sz : Nat} {r : Pl} {e : TypeId} {fz : Nat × Nat} {o' : Nat} (hlen : o + len * sz ≤ cs.length) (hw : w.heap[r.β]? = some (.cells ⟨rs⟩ e fz))
    (hV : VL κ φ cs ((rs.drop r.o).take cs.length)) (ho : len * sz ≠ 0 → o' = r.o + o) :
    ∃ l', (loadCells ⟨r.β, o', none⟩ (len * sz)).run P w = .ok ⟨l'⟩ w ∧ VL κ φ ((cs.drop o).take (len * sz)) l' := by
  have hsub := (hV.drop o).take (len * sz)
  refine ⟨_, ?_, hsub⟩
  have hl2 : ((((rs.drop r.o).take cs.length).drop o).take (len * sz)).length = len * sz := by
    rw [hsub.length]; simp; omega
  have hl := run_loadCells_list (P := P) w ⟨r.β, o', none⟩ ((((rs.drop r.o).take cs.length).drop o).take (len * sz)) (fun j v' hj => by
    have hne : len * sz ≠ 0 := by
      intro h0; rw [h0] at hj; simp at hj
    rw [ho hne, addr_add]
    have h1 : ((rs.drop r.o).take cs.length)[o + j]? = some v' := by
      rw [List.getElem?_take] at hj
      split at hj
      · rwa [List.getElem?_drop] at hj
      · cases hj
    have h2 : rs[r.o + (o + j)]? = some v' := by
      rw [List.getElem?_take] at h1
      split at h1
      · rwa [List.getElem?_drop] at h1
      · cases h1
    rw [← Nat.add_assoc] at h2
    simp [World.cell?, hw, h2])
  rw [hl2] at hl
  exact hl

theorem afL_bytes (l : List UInt8) : afL (l.map fun b => Value.int .u8 b.toNat) = true := by
  induction l with
  | nil => rfl
  | cons n l ih => simp only [List.map_cons, afL, af, ih, Bool.and_self]
theorem isU8_spec {e : TypeId} (h : isU8 P e = true) : P.underlying e = some (.int .u8) := by
  unfold isU8 at h
  split at h
  · assumption
  · cases h

theorem cell_of_obj {cs rs : List Value} {off : Nat} {r : Pl} {e : TypeId} {fz : Nat × Nat} (h3 : r.o + cs.length ≤ r.size) (h1 : rs.length = r.size) (hlt : off < cs.length)
    (hw : w.heap[r.β]? = some (.cells ⟨rs⟩ e fz)) : ∃ u, w.cell? ⟨r.β, r.o + off, none⟩ = some u := by
  have : r.o + off < rs.length := by omega
  exact ⟨rs[r.o + off], by simp [World.cell?, hw, List.getElem?_eq_getElem this]⟩

theorem lop_convert {src dst : TypeId} {x : Operand} {d : Option Tmp} {ty : TypeId} {pos : String} {aft : Array Edge} {g : Option (Nat × Bool)}
    (h : lop P c getO ev ⟨d, .convert src dst x, ty, pos, aft, g⟩ = some ⟨v, ob, rd⟩) (hO : ∀ y ∈ (Op.convert src dst x).operands, V κ φ (ev y) (ρ y)) (hR : RdOk κ P φ getO rd w) (hc : ob ≠ none → φ c = none) :
    LOk κ P φ c ρ w ⟨d, .convert src dst x, ty, pos, aft, g⟩ v ob := by
  simp only [lop] at h
  have hx := hO x (by simp [Op.operands])
  split at h
  · rename_i b off len cp e
    rw [e] at hx
    obtain ⟨rfl, _, p, o', cap, hp, ho, hle, hb, hr⟩ := hx.slI
    simp only at ho hp
    split at h
    · rename_i el hs hd
      split at h
      · rename_i m e2 cs hu8 hg
        split at h
        · rename_i hble
          have hble' := Nat.le_of_ble_eq_true hble
          split at h
          · rename_i bs hbs
            simp only [Option.some.injEq, LR.mk.injEq] at h
            obtain ⟨rfl, rfl, rfl⟩ := h
            obtain ⟨r, y, hp', hw, hy⟩ := hR.at (by simp) hg hp
            rw [hp] at hp'; cases hp'
            cases hy with
            | cells h1 h2 h3 h4 h5 h6 =>
              obtain ⟨ns, hns, rfl⟩ := bytesOf_spec hbs
              obtain ⟨l', hl, hV⟩ := slice_cells (P := P) (sz := 1) (len := len) (o' := o') (by omega) hw h4 (fun hne => ho (by omega))
              simp only [Nat.mul_one] at hl hV
              rw [hns] at hV
              have hl' : l' = ns.map (Value.int .u8) := VL.eq_of_af hV (afL_ints _ _)
              subst hl'
              have hrun := run_bytesToString (P := P) w ⟨p.β, o', none⟩ len cap ns hl
              refine ⟨.string ⟨⟨ns.map fun n => UInt8.ofNat n.toNat⟩⟩, w, run_v (s := convert src dst (ρ x)) ?_, rfl, .af rfl⟩
              rw [hr, run_convert_bytes_string w src dst el _ _ _ hs (isU8_spec hu8) hd, hrun, foldl_push]
              simp
          · cases h
        · cases h
      · cases h
    · cases h
  · rename_i s e
    rw [e] at hx
    split at h
    · rename_i el hs hd
      split at h
      · rename_i hu8
        simp only [Option.some.injEq, LR.mk.injEq] at h
        obtain ⟨rfl, rfl, rfl⟩ := h
        simp only [Bool.and_eq_true] at hu8
        have hco : P.cellsOf el = 1 := Nat.eq_of_beq_eq_true hu8.2
        have hrun := run_bytes_of_string (P := P) w src dst el s hs hd (isU8_spec hu8.1)
        have hcap := grownCap_ge w s.size 0 el
        generalize grownCap w s.size 0 el = K at hrun hcap
        have hsz : s.data.toList.length = s.size := by show s.data.toList.length = s.data.size; exact Array.length_toList
        have hrow : bytesRow s K = ⟨(s.data.toList.map fun b => Value.int .u8 b.toNat) ++ List.replicate (K - s.size) (.int .u8 0)⟩ := by
          apply Array.ext'; simp [bytesRow]
        have hlen : (bytesRow s K).size = K := by rw [hrow]; simp only [List.size_toArray, List.length_append, List.length_map, List.length_replicate, hsz]; omega
        refine ⟨.slice (some ⟨w.heap.size, 0, none⟩) s.size K, w.drew.alloc (.cells (bytesRow s K) el ((bytesRow s K).size, (bytesRow s K).size + 1)), run_v (s := convert src dst (ρ x)) (by rw [hx.string]; exact hrun), .cells (bytesRow s K) el ((bytesRow s K).size, (bytesRow s K).size + 1), P.cellsOf el, K, rfl, rfl, rfl, rfl, ?_, ?_⟩
        · rw [hlen, hrow]
          refine .cells (by simp only [List.length_append, List.length_map, List.length_replicate, hsz]; omega) rfl (by simp only [List.length_map, hsz]; omega) ?_ (fun _ i hi => by simp only at hi ⊢; omega) (fun e => by cases e)
          simp only [List.drop_zero, List.take_left']
          exact VL.refl (afL_bytes s.data.toList)
        · exact V.sl (φ.upd_self c _) (fun _ => rfl) hcap (by show 0 + K * P.cellsOf el ≤ K; rw [hco]; omega)
      · cases h
    · simp only [Option.some.injEq, LR.mk.injEq] at h
      obtain ⟨rfl, rfl, rfl⟩ := h
      rename_i hs hd
      exact ⟨.string s, w, run_v (s := convert src dst (ρ x)) (by simp [hx.string, convert, run_und hs, run_und hd]), rfl, .af rfl⟩
    · cases h
  · rename_i b off e
    rw [e] at hx
    obtain ⟨_, p, hp, hr⟩ := hx.ptrI
    split at h
    · rename_i t m e2 cs hs hd hg
      split at h
      · rename_i n hsz hlt
        simp only [Option.some.injEq, LR.mk.injEq] at h
        obtain ⟨rfl, rfl, rfl⟩ := h
        obtain ⟨r, y, hp', hw, hy⟩ := hR.at (by simp) hg hp
        rw [hp] at hp'; cases hp'
        cases hy with
        | cells h1 h2 h3 h4 h5 h6 =>
          obtain ⟨u, hu⟩ := cell_of_obj h3 h1 (Nat.le_of_ble_eq_true hlt) hw
          obtain ⟨i, hi, hin, _⟩ := info_of_sizeT hsz
          exact ⟨ρ x, w, run_v (s := convert src dst (ρ x)) (by rw [hr]; exact run_convert_to_unsafe hs hd (by simp [hi, hin]) hu), rfl, by rw [hr]; exact .ptr hp⟩
      · cases h
    · rename_i t e2 cs hs hd hg
      split at h
      · rename_i n hsz hlies
        simp only [Option.some.injEq, LR.mk.injEq] at h
        obtain ⟨rfl, rfl, rfl⟩ := h
        obtain ⟨r, y, hp', hw, hy⟩ := hR.at (by simp) hg hp
        rw [hp] at hp'; cases hp'
        cases hy with
        | cells h1 h2 h3 h4 h5 h6 =>
          obtain ⟨ho, hsize⟩ := h6 rfl
          refine ⟨ρ x, w, run_v (s := convert src dst (ρ x)) ?_, rfl, by rw [hr]; exact .ptr hp⟩
          have hsh : w.shape? p.β = some (e2, cs.length) := by simp [World.shape?, hw, h1, hsize]
          rw [hr]
          simp [convert, Conv.unsafePointer, Conv.seenAt, viewAt, run_und hs, run_und hd, run_sizeT hsz, variablesAt, hsh, ho, hlies]
      · cases h
    · cases h
  · split at h
    · rename_i haf
      exact lok_pure (s := convert src dst (ev x)) (by simp only [execOp, hx.eq_of_af haf]) h
    · cases h
end
end Go.Qe
end
section
set_option linter.unusedVariables false
set_option linter.unusedSimpArgs false
namespace Go.Qe
theorem wrap_small (k : Nat) (h : k ≤ 100000) : IntKind.i64.wrap (k : Int) = k := by
  rw [IntKind.wrap_i64]; omega
theorem small_48 (b k : Nat) (h : b * k ≤ 100000) : ¬ ((2 : Int) ^ 48 < (b : Int) * (k : Int)) := by
  have h2 : ((b * k : Nat) : Int) = (b : Int) * (k : Int) := by simp
  rw [← h2]
  have h3 : ((b * k : Nat) : Int) ≤ 100000 := by omega
  intro h4
  have h5 : (2 : Int) ^ 48 = 281474976710656 := by decide
  rw [h5] at h4
  omega
end Go.Qe
end
section
set_option linter.unusedVariables false
set_option linter.unusedSimpArgs false
namespace Go.Qe
mutual
theorem vbeq_eq : ∀ (a b : Value), vbeq a b = true → a = b
  | .bool a, b, h => by cases b <;> simp_all [vbeq]
  | .int k a, b, h => by cases b <;> simp_all [vbeq]
  | .float k a, b, h => by cases b <;> simp_all [vbeq]
  | .complex k a b, c, h => by cases c <;> simp_all [vbeq]
  | .string a, b, h => by
    cases b <;> simp_all [vbeq]
    rename_i b
    obtain ⟨⟨x⟩⟩ := a; obtain ⟨⟨y⟩⟩ := b
    simp_all
  | .pointer a, b, h => by cases b <;> simp_all [vbeq]
  | .slice a l c, b, h => by cases b <;> simp_all [vbeq]
  | .map a, b, h => by cases b <;> simp_all [vbeq]
  | .chan a, b, h => by cases b <;> simp_all [vbeq]
  | .func f ⟨fs⟩ ⟨cs⟩, b, h => by
    cases b <;> try (simp [vbeq] at h; done)
    rename_i g gs ds
    obtain ⟨gs⟩ := gs; obtain ⟨ds⟩ := ds
    simp only [vbeq, Bool.and_eq_true, beq_iff_eq] at h
    rw [h.1.1, vbeqL_eq fs gs h.1.2, vbeqL_eq cs ds h.2]
  | .nilFunc, b, h => by cases b <;> simp_all [vbeq]
  | .iface t v, b, h => by
    cases b <;> try (simp [vbeq] at h; done)
    rename_i s u
    simp only [vbeq, Bool.and_eq_true, beq_iff_eq] at h
    rw [h.1, vbeq_eq v u h.2]
  | .nilIface, b, h => by cases b <;> simp_all [vbeq]
  | .agg ⟨l⟩, b, h => by
    cases b <;> try (simp [vbeq] at h; done)
    rename_i m
    obtain ⟨m⟩ := m
    rw [vbeqL_eq l m (by simpa [vbeq] using h)]
  | .tuple ⟨l⟩, b, h => by
    cases b <;> try (simp [vbeq] at h; done)
    rename_i m
    obtain ⟨m⟩ := m
    rw [vbeqL_eq l m (by simpa [vbeq] using h)]
theorem vbeqL_eq : ∀ (a b : List Value), vbeqL a b = true → a = b
  | [], b, h => by cases b <;> simp_all [vbeqL]
  | v :: l, b, h => by
    cases b with
    | nil => simp [vbeqL] at h
    | cons u m =>
      simp only [vbeqL, Bool.and_eq_true] at h
      rw [vbeq_eq v u h.1, vbeqL_eq l m h.2]
end
theorem obeq_eq {a b : Option CObj} (h : obeq a b = true) : a = b := by
  unfold obeq at h
  split at h
  · rfl
  · simp only [Bool.and_eq_true, beq_iff_eq] at h
    rw [h.1.1, h.1.2, vbeqL_eq _ _ h.2]
  · simp only [Bool.and_eq_true, beq_iff_eq] at h
    rw [h.1, vbeqL_eq _ _ h.2]
  · cases h

section
variable {κ : Nat → Value} {P : Program} {φ : Phi} {c : Nat} {getO : Nat → Option CObj} {ev ρ : Operand → Value} {w : World} {v : Value} {ob : Option CObj} {rd : List Nat}

theorem run_makeSlice {t el : TypeId} {sz k : Nat} {z a b : Value} {i : TypeInfo} (hu : P.underlying t = some (.slice el)) (hsz : sizeT P el = some sz) (hz : zeroT P el = some z) (hi : P.info? el = some i)
    (ha : a = .int .i64 (k : Int)) (hb : b = .int .i64 (k : Int)) (hby : i.bytes * k ≤ 100000) (hk : k ≤ 100000) :
    (Instr.makeSlice t a b).run P w = .ok (.slice (some ⟨w.heap.size, 0, none⟩) k k) { w with heap := w.heap.push (.cells ⟨zeros z.cells (k * sz)⟩ el) } := by
  subst ha; subst hb
  have hw1 : IntKind.i64.wrap (k : Int) = k := wrap_small k hk
  have n1 : ¬ ((k : Int) < 0) := by omega
  have n2 := small_48 i.bytes k hby
  have n3 : ¬ (k * i.bytes > roomBytes) := by unfold roomBytes; rw [Nat.mul_comm]; omega
  have hcells : (Array.map (fun x => z.cells[x % z.cells.size]!) (Array.range (k * sz))) = ⟨zeros z.cells (k * sz)⟩ := by
    unfold zeros; apply Array.ext'; simp
  have hti : (typeInfo el).run P w = .ok i w := run_typeInfo w hi
  unfold Instr.makeSlice
  rw [Sem.run_bind, run_und hu, Result.andThen_ok]
  have q1 : (decide ((k : Int) < 0) || decide ((i.bytes : Int) * (k : Int) > 2 ^ 48)) = false := by
    rw [decide_eq_false n1, decide_eq_false n2]; rfl
  have q2 : (decide ((k : Int) < 0 ∨ (k : Int) > (k : Int))) = false := decide_eq_false (by omega)
  simp only [asInt, asIntOf, Sem.run_bind, Sem.run_pure, Result.andThen_ok, hti, hw1, q1]
  have har : (askRoom (k * i.bytes)).run P w = .ok () w := by unfold askRoom; rw [if_neg n3]; rfl
  rw [if_neg (by simp)]
  simp only [Int.toNat_natCast]
  rw [Sem.run_bind, har, Result.andThen_ok, Sem.run_bind, run_sizeT hsz, Result.andThen_ok]
  by_cases h0 : k * sz = 0
  · rw [if_pos h0]
    have e0 : Array.map (fun x => (#[] : Array Value)[x % (#[] : Array Value).size]!) (Array.range (k * sz)) = ⟨zeros z.cells (k * sz)⟩ := by rw [h0]; apply Array.ext'; simp [zeros]
    simp only [Sem.run_bind, Sem.run_pure, Result.andThen_ok]
    rw [e0, run_newRow]
    rfl
  · rw [if_neg h0]
    simp only [Sem.run_bind, Sem.run_pure, Result.andThen_ok, run_zeroT hz]
    rw [hcells, run_newRow]
    rfl

theorem lop_makeSlice {t : TypeId} {l cp : Operand} {d : Option Tmp} {ty : TypeId} {pos : String} {aft : Array Edge} {g : Option (Nat × Bool)}
    (h : lop P c getO ev ⟨d, .makeSlice t l cp, ty, pos, aft, g⟩ = some ⟨v, ob, rd⟩) (hO : ∀ y ∈ (Op.makeSlice t l cp).operands, V κ φ (ev y) (ρ y)) (hc : ob ≠ none → φ c = none) :
    LOk κ P φ c ρ w ⟨d, .makeSlice t l cp, ty, pos, aft, g⟩ v ob := by
  simp only [lop] at h
  have hl := hO l (by simp [Op.operands])
  have hcp := hO cp (by simp [Op.operands])
  split at h
  · rename_i el n hu hn heq
    have heq' := vbeq_eq _ _ heq
    rw [← heq', hn] at hcp
    rw [hn] at hl
    split at h
    · rename_i sz z i hsz hz hi
      split at h
      · rename_i hcond
        simp only [Bool.and_eq_true, decide_eq_true_eq] at hcond
        obtain ⟨⟨h0, hb⟩, hzs⟩ := hcond
        have hb' := Nat.le_of_ble_eq_true hb
        simp only [Option.some.injEq, LR.mk.injEq] at h
        obtain ⟨rfl, rfl, rfl⟩ := h
        obtain ⟨ii, hi', hzz, haf⟩ := zeroT_spec hz
        obtain ⟨_, _, _, hco⟩ := info_of_sizeT hsz
        obtain ⟨k, rfl⟩ := Int.eq_ofNat_of_zero_le h0
        simp only [Int.toNat_natCast] at hb'
        have hk : k ≤ 100000 := Nat.le_trans (Nat.le_mul_of_pos_right k (by omega)) hb'
        have hby : i.bytes * k ≤ 100000 := by
          have : k * (sz + i.bytes + 1) = k * sz + k * i.bytes + k := by rw [Nat.mul_add, Nat.mul_add, Nat.mul_one]
          rw [Nat.mul_comm]; omega
        have hcells : (Array.map (fun x => z.cells[x % z.cells.size]!) (Array.range (k * sz))) = ⟨zeros z.cells (k * sz)⟩ := by
          unfold zeros; apply Array.ext'; simp
        have hrun := run_makeSlice (w := w) hu hsz hz hi hl.int hcp.int hby hk
        have hV2 : V κ (φ.upd c ⟨w.heap.size, 0, P.cellsOf el, (zeros z.cells (k * sz)).length⟩) (.slice (some ⟨c, 0, none⟩) k 0) (.slice (some ⟨w.heap.size, 0, none⟩) k k) := by
          refine V.sl (φ.upd_self c _) (fun _ => rfl) (Nat.le_refl _) ?_
          show 0 + k * P.cellsOf el ≤ (zeros z.cells (k * sz)).length
          rw [hco, zeros_length]; omega
        have hL : LStep κ P φ c (some (.cells 0 el (zeros z.cells (k * sz)))) (.slice (some ⟨c, 0, none⟩) k 0) w (.slice (some ⟨w.heap.size, 0, none⟩) k k) { w with heap := w.heap.push (.cells ⟨zeros z.cells (k * sz)⟩ el) } :=
          lstep_new (hc (by simp)) (VL.refl (afL_zeros (afL_cells haf) _)) hV2
        exact ⟨_, _, run_v (s := Instr.makeSlice t (ρ l) (ρ cp)) hrun, hL⟩
      · cases h
    · cases h
  · cases h

theorem bnd_spec {x : Option Operand} {z n : Nat} (h : bnd ev x z = some n) (hO : ∀ y ∈ x.toArray, V κ φ (ev y) (ρ y)) : (x = none ∧ n = z) ∨ ∃ (y : Operand) (k : IntKind), x = some y ∧ ρ y = .int k n := by
  unfold bnd at h
  split at h
  · simp only [Option.some.injEq] at h; exact .inl ⟨rfl, h.symm⟩
  · rename_i l
    split at h
    · rename_i k i e
      split at h
      · rename_i h0
        simp only [Option.some.injEq] at h
        subst h
        have h0' : 0 ≤ i := of_decide_eq_true h0
        obtain ⟨m, rfl⟩ := Int.eq_ofNat_of_zero_le h0'
        have := hO l (by simp)
        rw [e] at this
        exact .inr ⟨l, k, rfl, this.int⟩
      · cases h
    · cases h

theorem run_sliceBound {P : Program} {w : World} {k : IntKind} {n y : Nat} (h : n ≤ y) (code : BoundsCode) : (Instr.sliceBound (.int k (n : Int)) y code).run P w = .ok n w := by
  have hc : 0 ≤ (n : Int) ∧ (n : Int) ≤ (y : Int) := ⟨by omega, by omega⟩
  simp [Instr.sliceBound, asIntOf, hc]

theorem lop_slice {t : TypeId} {x : Operand} {lo hi mx : Option Operand} {d : Option Tmp} {ty : TypeId} {pos : String} {aft : Array Edge} {g : Option (Nat × Bool)}
    (h : lop P c getO ev ⟨d, .slice t x lo hi mx, ty, pos, aft, g⟩ = some ⟨v, ob, rd⟩) (hO : ∀ y ∈ (Op.slice t x lo hi mx).operands, V κ φ (ev y) (ρ y)) (hR : RdOk κ P φ getO rd w) :
    LOk κ P φ c ρ w ⟨d, .slice t x lo hi mx, ty, pos, aft, g⟩ v ob := by
  simp only [lop] at h
  have hx := hO x (by simp [Op.operands])
  have hlo : ∀ y ∈ lo.toArray, V κ φ (ev y) (ρ y) := fun y hy => hO y (by simp [Op.operands] at hy ⊢; simp [hy])
  have hhi : ∀ y ∈ hi.toArray, V κ φ (ev y) (ρ y) := fun y hy => hO y (by simp [Op.operands] at hy ⊢; simp [hy])
  split at h
  · cases h
  · split at h
    · rename_i s e
      rw [e] at hx
      split at h
      · rename_i haf
        simp only [Bool.and_eq_true] at haf
        split at h
        · rename_i hu
          have e1 : lo.map ρ = lo.map ev := by
            cases lo with
            | none => rfl
            | some y => simp only [Option.map_some, Option.getD_some] at haf ⊢; rw [(hlo y (by simp)).eq_of_af haf.1]
          have e2 : hi.map ρ = hi.map ev := by
            cases hi with
            | none => rfl
            | some y => simp only [Option.map_some, Option.getD_some] at haf ⊢; rw [(hhi y (by simp)).eq_of_af haf.2]
          obtain ⟨hp, hafv, rfl⟩ := okV_spec h
          refine ⟨v, w, run_v (s := Instr.sliceAt t (ρ x) (lo.map ρ) (hi.map ρ) none) ?_, rfl, .af hafv⟩
          have := prun_run _ w hp
          rw [e1, e2, hx.string]
          unfold Instr.sliceAt
          rw [Sem.run_bind, run_und hu, Result.andThen_ok]
          exact this
        · cases h
      · cases h
    · rename_i b off len cp e
      rw [e] at hx
      obtain ⟨rfl, _, p, o', cap, hp, ho, hle, hb, hr⟩ := hx.slI
      simp only at ho hp
      split at h
      · rename_i el m e2 cs hu hg
        split at h
        · rename_i sz l gg hsz hl hgg
          split at h
          · rename_i hcond
            simp only [Bool.and_eq_true] at hcond
            obtain ⟨⟨h1, h2⟩, h3⟩ := hcond
            have h1' := Nat.le_of_ble_eq_true h1
            have h2' := Nat.le_of_ble_eq_true h2
            have h3' : P.cellsOf e2 = sz := Nat.eq_of_beq_eq_true h3
            simp only [Option.some.injEq, LR.mk.injEq] at h
            obtain ⟨rfl, rfl, rfl⟩ := h
            obtain ⟨r, y, hp', hw, hy⟩ := hR.at (by simp) hg hp
            rw [hp] at hp'; cases hp'
            cases hy with
            | cells q1 q2 q3 q4 q5 q6 =>
              have hes : p.es = sz := q2.trans h3'
              have hbl := bnd_spec hl hlo
              have hbh := bnd_spec hgg hhi
              have hbounds : (Instr.sliceBounds true len cap (lo.map ρ) (hi.map ρ) none).run P w = .ok (l, gg, cap) w := by
                unfold Instr.sliceBounds
                rcases hbl with ⟨rfl, rfl⟩ | ⟨y1, k1, rfl, hy1⟩ <;> rcases hbh with ⟨rfl, rfl⟩ | ⟨y2, k2, rfl, hy2⟩
                · simp
                · simp [hy2, run_sliceBound (show gg ≤ cap by omega)]
                · simp [hy1, run_sliceBound h1']
                · simp [hy1, hy2, run_sliceBound h1', run_sliceBound (show gg ≤ cap by omega)]
              refine ⟨.slice (if cap = l then some ⟨p.β, o', none⟩ else some ⟨p.β, o' + l * sz, none⟩) (gg - l) (cap - l), w, run_v (s := Instr.sliceAt t (ρ x) (lo.map ρ) (hi.map ρ) none) ?_, rfl, ?_⟩
              · unfold Instr.sliceAt
                rw [Sem.run_bind, run_und hu, Result.andThen_ok]
                show (Instr.slice t (ρ x) (lo.map ρ) (hi.map ρ) none).run P w = _
                unfold Instr.slice
                rw [Sem.run_bind, run_und hu, Result.andThen_ok, hr]
                show (do let (l, h, m) ← Instr.sliceBounds true len cap (lo.map ρ) (hi.map ρ) none; let size ← sizeOf el; pure (Value.slice (if m = l then some ⟨p.β, o', none⟩ else (some (⟨p.β, o', none⟩ : Addr)).map (·.add (l * size))) (h - l) (m - l)) : Sem Value).run P w = _
                rw [Sem.run_bind, hbounds, Result.andThen_ok]
                simp [run_sizeT hsz, addr_add]
              · by_cases hcl : cap = l
                · rw [if_pos hcl]
                  have : gg - l = 0 := by omega
                  rw [this]
                  refine V.sl hp (fun h => absurd rfl h) (Nat.zero_le _) ?_
                  have : cap - l = 0 := by omega
                  rw [this]; omega
                · rw [if_neg hcl]
                  refine V.sl hp (fun hne => ?_) (by omega) ?_
                  · rw [ho (by omega)]; omega
                  · rw [hes] at hb ⊢
                    have : l * sz + (cap - l) * sz = cap * sz := by rw [← Nat.add_mul]; congr 1; omega
                    omega
          · cases h
        · cases h
      · cases h
    · rename_i ln cp e
      rw [e] at hx
      obtain ⟨rfl, rfl, hr⟩ := hx.slN
      split at h
      · rename_i hz
        simp only [Bool.and_eq_true] at hz
        split at h
        · rename_i el hu
          split at h
          · rename_i sz hsz
            simp only [Option.some.injEq, LR.mk.injEq] at h
            obtain ⟨rfl, rfl, rfl⟩ := h
            have hbounds : (Instr.sliceBounds true 0 0 (lo.map ρ) (hi.map ρ) none).run P w = .ok (0, 0, 0) w := by
              have hlz : lo = none ∨ ∃ y, lo = some y ∧ ρ y = .int .i64 ((0 : Nat) : Int) := by
                cases lo with
                | none => exact .inl rfl
                | some y =>
                  have h1 := hz.1
                  simp only [Option.all_some] at h1
                  have h2 := hlo y (by simp)
                  rw [vbeq_eq _ _ h1] at h2
                  exact .inr ⟨y, rfl, h2.int⟩
              have hhz : hi = none ∨ ∃ y, hi = some y ∧ ρ y = .int .i64 ((0 : Nat) : Int) := by
                cases hi with
                | none => exact .inl rfl
                | some y =>
                  have h1 := hz.2
                  simp only [Option.all_some] at h1
                  have h2 := hhi y (by simp)
                  rw [vbeq_eq _ _ h1] at h2
                  exact .inr ⟨y, rfl, h2.int⟩
              unfold Instr.sliceBounds
              rcases hlz with rfl | ⟨y1, rfl, hy1⟩ <;> rcases hhz with rfl | ⟨y2, rfl, hy2⟩
              · simp
              · simp only [Option.map_some, Option.map_none, hy2, Sem.run_bind, Sem.run_pure, Result.andThen_ok, run_sliceBound (Nat.le_refl 0)]
              · simp only [Option.map_some, Option.map_none, hy1, Sem.run_bind, Sem.run_pure, Result.andThen_ok, run_sliceBound (Nat.le_refl 0)]
              · simp only [Option.map_some, Option.map_none, hy1, hy2, Sem.run_bind, Sem.run_pure, Result.andThen_ok, run_sliceBound (Nat.le_refl 0)]
            refine ⟨.slice none 0 0, w, run_v (s := Instr.sliceAt t (ρ x) (lo.map ρ) (hi.map ρ) none) ?_, rfl, .af rfl⟩
            unfold Instr.sliceAt
            rw [Sem.run_bind, run_und hu, Result.andThen_ok]
            show (Instr.slice t (ρ x) (lo.map ρ) (hi.map ρ) none).run P w = _
            unfold Instr.slice
            rw [Sem.run_bind, run_und hu, Result.andThen_ok, hr]
            show (do let (l, h, m) ← Instr.sliceBounds true 0 0 (lo.map ρ) (hi.map ρ) none; let size ← sizeOf el; pure (Value.slice (if m = l then none else (none : Option Addr).map (·.add (l * size))) (h - l) (m - l)) : Sem Value).run P w = _
            rw [Sem.run_bind, hbounds, Result.andThen_ok]
            simp [run_sizeT hsz]
          · cases h
        · cases h
      · cases h
    · cases h
end
end Go.Qe
end
section
set_option linter.unusedVariables false
set_option linter.unusedSimpArgs false
namespace Go.Qe
section
variable {κ : Nat → Value} {P : Program} {φ : Phi} {c : Nat} {getO : Nat → Option CObj} {ev ρ : Operand → Value} {w : World} {v : Value} {ob : Option CObj} {rd : List Nat}

theorem exec_builtin (b : Builtin) (args : Array Operand) (ts : Array TypeId) (d : Option Tmp) (ty : TypeId) (pos : String) (aft : Array Edge) (g : Option (Nat × Bool)) :
    execOp ρ ⟨d, .call ⟨.builtin b, args, ts⟩, ty, pos, aft, g⟩ = builtin b ts ty (args.map fun | .const _ => true | _ => false) (args.map ρ) := rfl

theorem map_one {args : Array Operand} {u : Value} (h : args.toList.map ev = [u]) : ∃ a, args = #[a] ∧ ev a = u := by
  obtain ⟨l⟩ := args
  match l, h with
  | [a], h => simp at h; exact ⟨a, rfl, h⟩
theorem map_two {args : Array Operand} {u v : Value} (h : args.toList.map ev = [u, v]) : ∃ a b, args = #[a, b] ∧ ev a = u ∧ ev b = v := by
  obtain ⟨l⟩ := args
  match l, h with
  | [a, b], h => simp at h; exact ⟨a, b, rfl, h.1, h.2⟩

theorem und_of_bind {ts : Array TypeId} {d : TypeDesc} (h : (ts[0]?).bind P.underlying = some d) : ∃ t, ts[0]? = some t ∧ P.underlying t = some d := by
  cases ht : ts[0]? with
  | none => simp [ht] at h
  | some t => exact ⟨t, rfl, by simpa [ht] using h⟩

theorem lop_call {cl : Call} {d : Option Tmp} {ty : TypeId} {pos : String} {aft : Array Edge} {g : Option (Nat × Bool)}
    (h : lop P c getO ev ⟨d, .call cl, ty, pos, aft, g⟩ = some ⟨v, ob, rd⟩) (hO : ∀ y ∈ (Op.call cl).operands, V κ φ (ev y) (ρ y)) (hR : RdOk κ P φ getO rd w) : LOk κ P φ c ρ w ⟨d, .call cl, ty, pos, aft, g⟩ v ob := by
  obtain ⟨cal, args, ts⟩ := cl
  cases cal with
  | value f => simp [lop] at h
  | invoke r m => simp [lop] at h
  | builtin b =>
    have hO' : ∀ y ∈ args, V κ φ (ev y) (ρ y) := fun y hy => hO y (by simp [Op.operands, Call.operands, hy])
    have hmap : afL (args.toList.map ev) = true → args.map ρ = args.map ev := by
      intro haf
      obtain ⟨l⟩ := args
      simp only [List.map_toArray]
      congr 1
      have := VL.eq_of_af (VL.map_op (κ := κ) (φ := φ) (l := l) fun y hy => hO' y (by simpa using hy)) haf
      exact this
    cases b with
    | len =>
      simp only [lop] at h
      split at h
      · rename_i s e
        obtain ⟨a, rfl, ea⟩ := map_one e
        have ha := hO' a (by simp)
        rw [ea] at ha
        split at h
        · rename_i hu
          obtain ⟨t, ht, hu⟩ := und_of_bind hu
          simp only [Option.some.injEq, LR.mk.injEq] at h
          obtain ⟨rfl, rfl, rfl⟩ := h
          refine ⟨.int .i64 s.size, w, ?_, rfl, .af rfl⟩
          rw [exec_builtin]
          exact run_v (s := Builtin.len_ ts ty (#[a].map ρ)) (by simp [Builtin.len_, ht, run_und hu, ha.string, goInt])
        · cases h
      · rename_i a0 n cp e
        obtain ⟨a, rfl, ea⟩ := map_one e
        have ha := hO' a (by simp)
        rw [ea] at ha
        split at h
        · rename_i el hu
          obtain ⟨t, ht, hu⟩ := und_of_bind hu
          simp only [Option.some.injEq, LR.mk.injEq] at h
          obtain ⟨rfl, rfl, rfl⟩ := h
          refine ⟨.int .i64 n, w, ?_, rfl, .af rfl⟩
          rw [exec_builtin]
          have hs : ∃ b' c', ρ a = .slice b' n c' := by
            cases a0 with
            | none => obtain ⟨rfl, rfl, hr⟩ := ha.slN; exact ⟨_, _, hr⟩
            | some ad => obtain ⟨_, _, p, o', cap, _, _, _, _, hr⟩ := ha.slI; exact ⟨_, _, hr⟩
          obtain ⟨b', c', hr⟩ := hs
          exact run_v (s := Builtin.len_ ts ty (#[a].map ρ)) (by simp [Builtin.len_, ht, run_und hu, hr, goInt])
        · cases h
      · rename_i m e
        obtain ⟨a, rfl, ea⟩ := map_one e
        have ha := hO' a (by simp)
        rw [ea] at ha
        split at h
        · rename_i hu
          obtain ⟨t, ht, hu⟩ := und_of_bind hu
          simp only [Option.some.injEq, LR.mk.injEq] at h
          obtain ⟨rfl, rfl, rfl⟩ := h
          refine ⟨.int .i64 0, w, ?_, rfl, .af rfl⟩
          rw [exec_builtin]
          exact run_v (s := Builtin.len_ ts ty (#[a].map ρ)) (by simp [Builtin.len_, ht, run_und hu, ha.mapN, goInt])
        · rename_i b hu
          obtain ⟨t, ht, hu⟩ := und_of_bind hu
          split at h
          · rename_i es cl hg
            simp only [Option.some.injEq, LR.mk.injEq] at h
            obtain ⟨rfl, rfl, rfl⟩ := h
            obtain ⟨p, hp, hr⟩ := ha.mapI
            obtain ⟨r, xx, hp', hw, hxo⟩ := hR.at (by simp) hg hp
            rw [hp] at hp'; cases hp'
            obtain ⟨rs, hM, rfl, hgo⟩ := run_getMap (P := P) hw hxo
            have hl := hM.length
            refine ⟨.int .i64 es.length, w, ?_, rfl, .af rfl⟩
            rw [exec_builtin]
            exact run_v (s := Builtin.len_ ts ty (#[a].map ρ)) (by simp [Builtin.len_, ht, run_und hu, hr, hgo, goInt, hl])
          · cases h
        · cases h
      · cases h
    | unsafeSliceData =>
      simp only [lop] at h
      split at h
      · rename_i n cp e
        obtain ⟨a, rfl, ea⟩ := map_one e
        have ha := hO' a (by simp)
        rw [ea] at ha
        simp only [Option.some.injEq, LR.mk.injEq] at h
        obtain ⟨rfl, rfl, rfl⟩ := h
        obtain ⟨_, _, hr⟩ := ha.slN
        refine ⟨.pointer none, w, ?_, rfl, .af rfl⟩
        rw [exec_builtin]
        have e : (#[a] : Array Operand).map ρ = #[.slice none 0 0] := by simp [hr]
        exact run_v (s := Builtin.unsafeSliceData_ ts ty (#[a].map ρ)) (by rw [e]; rfl)
      · rename_i ad n cp e
        obtain ⟨a, rfl, ea⟩ := map_one e
        have ha := hO' a (by simp)
        rw [ea] at ha
        simp only [Option.some.injEq, LR.mk.injEq] at h
        obtain ⟨rfl, rfl, rfl⟩ := h
        obtain ⟨_, hsp, p, o', cap, hp, ho, hle, hb, hr⟩ := ha.slI
        obtain ⟨ab, ao, asp⟩ := ad
        simp only at hsp hp ho
        subst hsp
        have hoo := ho (by omega)
        subst hoo
        refine ⟨.pointer (some ⟨p.β, p.o + ao, none⟩), w, ?_, rfl, .ptr hp⟩
        rw [exec_builtin]
        obtain ⟨k, rfl⟩ : ∃ k, cap = k + 1 := ⟨cap - 1, by omega⟩
        have e : (#[a] : Array Operand).map ρ = #[.slice (some ⟨p.β, p.o + ao, none⟩) (n + 1) (k + 1)] := by simp [hr]
        exact run_v (s := Builtin.unsafeSliceData_ ts ty (#[a].map ρ)) (by rw [e]; rfl)
      · cases h
    | max =>
      simp only [lop] at h
      split at h
      · rename_i haf
        exact lok_pure (s := Builtin.max_ ts ty (args.map ev)) (by rw [exec_builtin, hmap haf]; rfl) h
      · cases h
    | min =>
      simp only [lop] at h
      split at h
      · rename_i haf
        exact lok_pure (s := Builtin.min_ ts ty (args.map ev)) (by rw [exec_builtin, hmap haf]; rfl) h
      · cases h
    | _ => simp [lop] at h

/-- Every light operation. -/
theorem lop_sound {o : Oper} (h : lop P c getO ev o = some ⟨v, ob, rd⟩) (hO : ∀ y ∈ o.op.operands, V κ φ (ev y) (ρ y)) (hR : RdOk κ P φ getO rd w) (hc : ob ≠ none → φ c = none) : LOk κ P φ c ρ w o v ob := by
  obtain ⟨d, op, ty, pos, aft, g⟩ := o
  cases op with
  | move x => exact lop_move h hO
  | assign x => exact lop_assign h hO
  | pick q a b => exact lop_pick h hO
  | alloc t => exact lop_alloc h hc
  | box t x => exact lop_box h hO hc
  | build t ps => exact lop_build h hO
  | buildSlice t l ps => exact lop_buildSlice h hO hc
  | load t a => exact lop_load h hO hR
  | nilCheck x => exact lop_nilCheck h hO
  | binOp b t x y t' => exact lop_binOp h hO
  | unOp u t x => exact lop_unOp h hO
  | convert s t x => exact lop_convert h hO hR hc
  | makeInterface t x => exact lop_makeInterface h hO
  | makeFunc f a b => exact lop_makeFunc h hO
  | makeSlice t l k => exact lop_makeSlice h hO hc
  | slice t x l k m => exact lop_slice h hO hR
  | fieldAddr s x f => exact lop_fieldAddr h hO
  | field s x f => exact lop_field h hO
  | indexAddr t x i => exact lop_indexAddr h hO
  | index t x i => exact lop_index h hO
  | extract x i => exact lop_extract h hO
  | range t x => exact lop_range h hO hR hc
  | makeMap t r => exact lop_makeMap h hO
  | lookup t x k o => exact lop_lookup h hO hR
  | typeAssert x t a k => exact lop_typeAssert h hO
  | call cl => exact lop_call h hO hR
  | _ => simp [lop] at h
end
end Go.Qe
end
section
set_option linter.unusedVariables false
set_option linter.unusedSimpArgs false
namespace Go.Qe
section
variable {κ : Nat → Value} {P : Program} {B : Bd} {G : Nat} {φ : Phi} {h : Heap} {w : World} {c : Nat}

theorem oc_one {u u' : Value} (h : oc u = true) (hV : V κ φ u u') : u'.oneCell' = true := by
  cases hV with
  | af e => cases u <;> simp_all [oc, Value.oneCell']
  | agg => simp [oc] at h
  | tuple => simp [oc] at h
  | opq k o => exact o
  | _ => rfl
theorem ocs_one {l l' : List Value} (h : l.all oc = true) (hV : VL κ φ l l') : ∀ u ∈ l', u.oneCell' = true := by
  induction l generalizing l' with
  | nil => cases hV; simp
  | cons v l ih =>
    cases hV with
    | cons a b =>
      simp only [List.all_cons, Bool.and_eq_true] at h
      intro u hu
      rcases List.mem_cons.1 hu with rfl | hu
      · exact oc_one h.1 a
      · exact ih h.2 b u hu

/-- What stands in a block, with some cells written anew. -/
def putAt : List Value → Nat → List Value → List Value
  | cs, _, [] => cs
  | cs, o, v :: l => putAt (cs.set o v) (o + 1) l
theorem setL_eq (l : List Value) : ∀ (cs : List Value) (o : Nat), setL cs o l = putAt cs o l := by
  induction l with
  | nil => intro cs o; rfl
  | cons v l ih => intro cs o; exact ih _ _
theorem putAt_length (l : List Value) : ∀ (cs : List Value) (o : Nat), (putAt cs o l).length = cs.length := by
  induction l with
  | nil => intro cs o; rfl
  | cons v l ih => intro cs o; simp only [putAt, ih, List.length_set]
theorem setCells_heap (b : Nat) (l : List Value) : ∀ (o : Nat) (w : World) (rs : List Value) (e : TypeId) (fz : Nat × Nat), w.heap[b]? = some (.cells ⟨rs⟩ e fz) →
    (w.setCells b o l).heap[b]? = some (.cells ⟨putAt rs o l⟩ e fz) := by
  induction l with
  | nil => intro o w rs e fz h; exact h
  | cons v l ih =>
    intro o w rs e fz h
    refine ih (o + 1) _ (rs.set o v) e fz ?_
    simp only [World.setCell, Array.getElem?_modify, if_true, h, Option.map_some]
    simp
theorem setCells_other (b : Nat) (l : List Value) : ∀ (o : Nat) (w : World) (k : Nat), k ≠ b → (w.setCells b o l).heap[k]? = w.heap[k]? := by
  induction l with
  | nil => intro o w k h; rfl
  | cons v l ih =>
    intro o w k h
    show ((w.setCell ⟨b, o, none⟩ v).setCells b (o + 1) l).heap[k]? = _
    rw [ih (o + 1) _ k h, heap_setCell_other w ⟨b, o, none⟩ k v h]
theorem setCells_env (b : Nat) (l : List Value) : ∀ (o : Nat) (w : World), (w.setCells b o l).tape = w.tape ∧ (w.setCells b o l).os = w.os ∧ (w.setCells b o l).output = w.output ∧ (w.setCells b o l).heap.size = w.heap.size := by
  induction l with
  | nil => intro o w; exact ⟨rfl, rfl, rfl, rfl⟩
  | cons v l ih =>
    intro o w
    obtain ⟨a, b', c, d⟩ := ih (o + 1) (w.setCell ⟨b, o, none⟩ v)
    exact ⟨a, b', c, d.trans (by simp [World.setCell])⟩
theorem putAt_rel {cs rs : List Value} {ro n : Nat} (hV : VL κ φ cs ((rs.drop ro).take n)) {l l' : List Value} (hl : VL κ φ l l') (hn : cs.length = n) (hr : ro + n ≤ rs.length) : ∀ (o : Nat), o + l.length ≤ n →
    VL κ φ (putAt cs o l) (((putAt rs (ro + o) l').drop ro).take n) := by
  induction l generalizing cs rs l' with
  | nil => cases hl; intro o _; exact hV
  | cons v l ih =>
    cases hl with
    | cons a b =>
      intro o ho
      simp only [List.length_cons] at ho
      simp only [putAt]
      have := ih (cs := cs.set o v) (rs := rs.set (ro + o) _) (l' := _) (by
        rw [List.drop_set, if_neg (by omega), List.take_set]
        have e : ro + o - ro = o := by omega
        rw [e]
        exact hV.set o a) b (by simpa using hn) (by simpa using hr) (o + 1) (by omega)
      rwa [← Nat.add_assoc] at this

/-- A block is written. -/
theorem stp_write {b m : Nat} {e : TypeId} {cs cs' : List Value} {r : Pl} {rs rs' : List Value} {fz : Nat × Nat} {w' : World} (hR : Rel κ P B G φ h w) (hb : h.get b = some (.cells m e cs)) (hm : m < 2)
    (hr : φ b = some r) (hw : w.heap[r.β]? = some (.cells ⟨rs⟩ e fz)) (hw' : w'.heap[r.β]? = some (.cells ⟨rs'⟩ e fz)) (ho : ∀ k, k ≠ r.β → w'.heap[k]? = w.heap[k]?)
    (hsz : w'.heap.size = w.heap.size) (htape : w'.tape = w.tape) (hos : w'.os = w.os) (hout : w'.output = w.output) (hl : rs'.length = rs.length) (hcl : cs'.length = cs.length)
    (hV : VL κ φ cs' ((rs'.drop r.o).take cs'.length)) : Stp κ P B G c c φ φ h (h.set b (.cells m e cs')) w w' := by
  obtain ⟨r0, x0, hr0, hx0, hob, hB⟩ := hR.obj b _ hb
  rw [hr] at hr0; cases hr0
  rw [hw] at hx0; cases hx0
  have hwr : wr (.cells m e cs) = true := by simp only [wr]; cases hq : Nat.beq m 2 with
    | true => have := Nat.eq_of_beq_eq_true hq; omega
    | false => rfl
  have hwr' : wr (.cells m e cs') = true := hwr
  refine { cc := Nat.le_refl _, ext := fun _ _ => rfl, new := ?_, rel := ⟨?_, ?_, hR.glob, fun β hβ => by rw [ho β (fun e => by have := hB hwr; omega)]; exact hR.base β hβ⟩, size := by omega, frame := ?_, own := ?_, tape := htape, os := hos, output := hout }
  · intro id e1
    rw [Tr.get_set] at e1
    by_cases hid : b = id
    · subst hid; exact .inl (by rw [hb]; simp)
    · rw [if_neg hid] at e1; exact .inl e1
  · intro id o1 e1
    rw [Tr.get_set] at e1
    by_cases hid : b = id
    · subst hid
      rw [if_pos rfl] at e1
      cases e1
      refine ⟨r, _, hr, hw', ?_, fun _ => hB hwr⟩
      cases hob with
      | cells a1 a2 a3 a4 a5 a6 => exact .cells (by rw [hl]; exact a1) a2 (by rw [hcl]; exact a3) hV a5 (fun hm1 => by rw [hcl]; exact a6 hm1)
    · rw [if_neg hid] at e1
      obtain ⟨r1, x1, hr1, hx1, ho1, hB1⟩ := hR.obj id o1 e1
      refine ⟨r1, x1, hr1, ?_, ho1, hB1⟩
      rw [ho r1.β (fun eq => hR.inj b id _ o1 r r1 hb e1 hwr hid hr hr1 eq.symm), hx1]
  · intro id id' o1 o2 r1 r2 e1 e2 w1 ne f1 f2
    rw [Tr.get_set] at e1 e2
    by_cases hid : b = id
    · subst hid
      rw [if_pos rfl] at e1; cases e1
      rw [if_neg ne] at e2
      exact hR.inj b id' _ o2 r1 r2 hb e2 hwr ne f1 f2
    · rw [if_neg hid] at e1
      by_cases hid' : b = id'
      · subst hid'
        exact hR.inj id b o1 _ r1 r2 e1 hb w1 ne f1 f2
      · rw [if_neg hid'] at e2
        exact hR.inj id id' o1 o2 r1 r2 e1 e2 w1 ne f1 f2
  · intro β _ hn
    exact ho β (fun eq => hn b _ r hb hwr hr eq.symm)
  · intro id o1 r1 e1 f1
    rw [Tr.get_set] at e1
    by_cases hid : b = id
    · subst hid
      exact .inl ⟨b, _, r1, hb, f1, rfl, fun _ => hwr⟩
    · rw [if_neg hid] at e1
      exact .inl ⟨id, o1, r1, e1, f1, rfl, fun q => q⟩

/-- Some cells of a block are stored into, in the world and in the heap. -/
theorem stp_store {b m : Nat} {e : TypeId} {cs l l' : List Value} {off o' : Nat} {r : Pl} (hR : Rel κ P B G φ h w) (hb : h.get b = some (.cells m e cs)) (hm : m < 2)
    (hr : φ b = some r) (ho : l.length ≠ 0 → o' = r.o + off) (hlen : off + l.length ≤ cs.length) (hl : VL κ φ l l') (hoc : l.all oc = true) :
    ∃ w', (storeCells ⟨r.β, o', none⟩ l').run P w = .ok () w' ∧ Stp κ P B G c c φ φ h (h.set b (.cells m e (setL cs off l))) w w' := by
  obtain ⟨r0, x0, hr0, hx0, hob, hB⟩ := hR.obj b _ hb
  rw [hr] at hr0; cases hr0
  cases hob with
  | cells a1 a2 a3 a4 a5 a6 =>
    rename_i rs fz
    have hll := hl.length
    by_cases h0 : l.length = 0
    · obtain rfl : l = [] := List.length_eq_zero_iff.1 h0
      cases hl
      refine ⟨w, rfl, ?_⟩
      exact stp_write (cs' := cs) (rs' := rs) hR hb hm hr hx0 hx0 (fun _ _ => rfl) rfl rfl rfl rfl rfl rfl a4
    · have := ho h0; subst this
      have hrun := run_storeCells_cells (P := P) r.β (r.o + off) l' 0 w (fun j hj => by
          have : r.o + off + j < rs.length := by omega
          simp [World.cell?, hx0, this]) (fun j hj => by
          have := a5 hm (r.o + off + 0 + j) (by omega)
          simp only [World.frozen?, hx0]
          simp only [Bool.and_eq_false_iff, decide_eq_false_iff_not]
          omega) (ocs_one hoc hl)
      refine ⟨_, hrun, ?_⟩
      simp only [Nat.add_zero]
      obtain ⟨e1, e2, e3, e4⟩ := setCells_env r.β l' (r.o + off) w
      rw [setL_eq]
      exact stp_write hR hb hm hr hx0 (setCells_heap _ _ _ _ _ _ _ hx0) (fun k hk => setCells_other _ _ _ _ _ hk) e4 e1 e2 e3 (putAt_length _ _ _) (putAt_length _ _ _)
        (by rw [putAt_length]; exact putAt_rel a4 hl rfl (by omega) off hlen)

/-- A new object. -/
theorem stp_new {o : CObj} {x : Obj} {r : Pl} {w' : World} (hR : Rel κ P B G φ h w) (hc : φ c = none) (hG : G ≤ c) (hB : B.n ≤ w.heap.size) (hr : r.β = w.heap.size) (hh : w'.heap = w.heap.push x)
    (htape : w'.tape = w.tape) (hos : w'.os = w.os) (hout : w'.output = w.output) (ho : ObjR κ P (φ.upd c r) o r x) : Stp κ P B G c (c + 1) φ (φ.upd c r) h (h.set c o) w w' := by
  have hle := Phi.le_upd r hc
  have hlt : ∀ id o1 r1 x1, h.get id = some o1 → φ id = some r1 → w.heap[r1.β]? = some x1 → r1.β < w.heap.size := fun id o1 r1 x1 _ _ hx => (Array.getElem?_eq_some_iff.1 hx).1
  have hnone : h.get c = none := by
    cases hg : h.get c with
    | none => rfl
    | some o1 => obtain ⟨r1, _, hr1, _⟩ := hR.obj c o1 hg; rw [hc] at hr1; cases hr1
  have hold : ∀ id o1, id ≠ c → h.get id = some o1 → ∀ r1, (φ.upd c r) id = some r1 → φ id = some r1 := fun id o1 hne _ r1 e => by rwa [Phi.upd_ne _ _ hne] at e
  have hbl : ∀ id o1 r1, h.get id = some o1 → φ id = some r1 → r1.β < w.heap.size := by
    intro id o1 r1 e f
    obtain ⟨r2, x2, f2, hx2, _⟩ := hR.obj id o1 e
    rw [f] at f2; cases f2
    exact (Array.getElem?_eq_some_iff.1 hx2).1
  refine { cc := Nat.le_succ _, ext := fun id hid => Phi.upd_ne _ _ (fun e => hid (by omega)), new := ?_, rel := ⟨?_, ?_, ?_, fun β hβ => by rw [hh, Array.getElem?_push, if_neg (by omega)]; exact hR.base β hβ⟩, size := by rw [hh]; simp, frame := ?_, own := ?_, tape := htape, os := hos, output := hout }
  · intro id e1
    rw [Tr.get_set] at e1
    by_cases hid : c = id
    · exact .inr (by omega)
    · rw [if_neg hid] at e1; exact .inl e1
  · intro id o1 e1
    rw [Tr.get_set] at e1
    by_cases hid : c = id
    · subst hid
      rw [if_pos rfl] at e1; cases e1
      exact ⟨r, x, φ.upd_self c r, by rw [hh, hr]; simp, ho, fun _ => by omega⟩
    · rw [if_neg hid] at e1
      obtain ⟨r1, x1, hr1, hx1, ho1, hB1⟩ := hR.obj id o1 e1
      exact ⟨r1, x1, hle _ _ hr1, by rw [hh, Array.getElem?_push, if_neg (by have := hbl id o1 r1 e1 hr1; omega)]; exact hx1, ho1.mono hle, hB1⟩
  · intro id id' o1 o2 r1 r2 e1 e2 w1 ne f1 f2
    rw [Tr.get_set] at e1 e2
    by_cases hid : c = id
    · subst hid
      rw [φ.upd_self] at f1; cases f1
      rw [if_neg ne] at e2
      have := hbl id' o2 r2 e2 (hold id' o2 (fun e => ne e.symm) e2 r2 f2)
      omega
    · rw [if_neg hid] at e1
      have f1' := hold id o1 (fun e => hid e.symm) e1 r1 f1
      by_cases hid' : c = id'
      · subst hid'
        rw [φ.upd_self] at f2; cases f2
        have := hbl id o1 r1 e1 f1'
        omega
      · rw [if_neg hid'] at e2
        exact hR.inj id id' o1 o2 r1 r2 e1 e2 w1 ne f1' (hold id' o2 (fun e => hid' e.symm) e2 r2 f2)
  · intro g hg
    obtain ⟨r1, hr1, a, b⟩ := hR.glob g hg
    exact ⟨r1, hle _ _ hr1, a, b⟩
  · intro β hβ _
    rw [hh, Array.getElem?_push, if_neg (by omega)]
  · intro id o1 r1 e1 f1
    rw [Tr.get_set] at e1
    by_cases hid : c = id
    · subst hid
      rw [φ.upd_self] at f1; cases f1
      exact .inr (by omega)
    · rw [if_neg hid] at e1
      exact .inl ⟨id, o1, r1, e1, hold id o1 (fun e => hid e.symm) e1 r1 f1, rfl, fun q => q⟩
/-- An object is let go. -/
theorem stp_del {b : Nat} (hR : Rel κ P B G φ h w) : Stp κ P B G c c φ φ h (h.del b) w w := by
  have hg : ∀ id o, (h.del b).get id = some o → h.get id = some o := by
    intro id o e
    rw [Tr.get_del] at e
    split at e
    · cases e
    · exact e
  refine { cc := Nat.le_refl _, ext := fun _ _ => rfl, new := ?_, rel := hR.sub hg, size := Nat.le_refl _, frame := fun _ _ _ => rfl, own := ?_, tape := rfl, os := rfl, output := rfl }
  · intro id e1
    cases hq : (h.del b).get id with
    | none => exact absurd hq e1
    | some o => exact .inl (by rw [hg id o hq]; simp)
  · intro id o r e f
    exact .inl ⟨id, o, r, hg id o e, f, rfl, fun q => q⟩
end
end Go.Qe
end
section
set_option linter.unusedVariables false
set_option linter.unusedSimpArgs false
namespace Go.Qe
section
variable {κ : Nat → Value} {P : Program} {B : Bd} {G : Nat} {φ : Phi} {h : Heap} {w : World} {c : Nat}

theorem lenV_spec {x x' : Value} {n : Nat} (hx : lenV x = some n) (hV : V κ φ x x') (w : World) : (Builtin.lenOf x').run P w = .ok n w := by
  unfold lenV at hx
  split at hx
  · rename_i a n0 cp
    simp only [Option.some.injEq] at hx; subst hx
    cases a with
    | none => obtain ⟨rfl, rfl, rfl⟩ := hV.slN; rfl
    | some ad => obtain ⟨_, _, p, o', cap, _, _, _, _, rfl⟩ := hV.slI; rfl
  · rename_i s
    simp only [Option.some.injEq] at hx; subst hx
    rw [hV.string]; rfl
  · cases hx

/-- The cells that an append or a copy takes, as the world gives them. -/
theorem src_spec {x x' : Value} {n m sz : Nat} {new : List Value} (hx : srcCells h.get sz n x = some new) (hlv : lenV x = some m) (hnm : n ≤ m) (hV : V κ φ x x') (hR : Rel κ P B G φ h w) :
    ∃ new', VL κ φ new new' ∧ ∀ w2 : World, w2.heap = w.heap → (Builtin.firstCells sz n x').run P w2 = .ok ⟨new'⟩ w2 := by
  cases x with
  | slice a len cp =>
    simp only [lenV, Option.some.injEq] at hlv
    subst hlv
    cases a with
    | none =>
      obtain ⟨rfl, rfl, rfl⟩ := hV.slN
      simp only [srcCells, Option.some.injEq] at hx; subst hx
      obtain rfl : n = 0 := by omega
      exact ⟨[], .nil, fun w2 _ => rfl⟩
    | some ad =>
      obtain ⟨b, off, sp⟩ := ad
      obtain ⟨rfl, hsp, p, o', cap, hp, ho, hle, hb, rfl⟩ := hV.slI
      simp only at ho hp hsp
      subst hsp
      simp only [srcCells] at hx
      split at hx
      · rename_i m0 e cs hg
        split at hx
        · rename_i hble
          have hble' := Nat.le_of_ble_eq_true hble
          simp only [Option.some.injEq] at hx; subst hx
          obtain ⟨r0, x0, hr0, hx0, hob, _⟩ := hR.obj b _ hg
          rw [hp] at hr0; cases hr0
          cases hob with
          | cells a1 a2 a3 a4 a5 a6 =>
            have hne : n * sz ≠ 0 → o' = p.o + off := fun hne => ho (fun e => hne ((show n = 0 by omega) ▸ Nat.zero_mul sz))
            exact ⟨_, (a4.drop off).take (n * sz), fun w2 hw2 => slice_cells2 (P := P) (w := w2) hble' (by rw [hw2]; exact hx0) a4 hne⟩
        · cases hx
      · cases hx
  | string s =>
    simp only [lenV, Option.some.injEq] at hlv
    subst hlv
    simp only [srcCells, Option.some.injEq] at hx; subst hx
    rw [hV.string]
    refine ⟨_, VL.refl (afL_bytes _), fun w2 _ => ?_⟩
    simp only [Builtin.firstCells, Sem.run_pure]
    congr 1
    apply Array.ext'
    have : s.size = s.data.toList.length := by show s.data.size = _; exact Array.length_toList.symm
    simp [ByteArray.data_extract]
  | _ => simp [lenV] at hlv

/-- An append that is the slice's own affair: what it makes. -/
theorem run_append_fits {ts : Array TypeId} {ty t tx el : TypeId} {dx : TypeDesc} {x : Value} {sLen sCap n sz : Nat} {base : Option Addr} {new : List Value} {w' : World} (ht : ts[0]? = some t) (hu : P.underlying t = some (.slice el))
    (htx : ts[1]? = some tx) (hux : P.underlying tx = some dx) (hdx : dx = .string ∨ ∃ e, dx = .slice e) (hsz : sizeT P el = some sz)
    (hlen : ∀ w : World, (Builtin.lenOf x).run P w = .ok n w) (hnew : ∀ w2 : World, w2.heap = w.heap → (Builtin.firstCells sz n x).run P w2 = .ok ⟨new⟩ w2)
    (hfit : sLen + n ≤ sCap) (hw' : ∀ a, base = some a → (storeCells (a.add (sLen * sz)) new).run P w = .ok () w') (hn : base = none → w' = w) :
    (Builtin.append_ ts ty #[.slice base sLen sCap, x]).run P w = .ok (.slice base (sLen + n) sCap) w' := by
  rcases hdx with rfl | ⟨e, rfl⟩
  all_goals
    cases base with
    | none =>
      obtain rfl := hn rfl
      simp [Builtin.append_, ht, run_und hu, run_sizeT hsz, htx, run_und hux, hlen, hfit, hnew w' rfl]
    | some a =>
      have := hw' a rfl
      simp [Builtin.append_, ht, run_und hu, run_sizeT hsz, htx, run_und hux, hlen, hfit, hnew w rfl, this]
theorem run_append_grows {ts : Array TypeId} {ty t tx el : TypeId} {dx : TypeDesc} {x z : Value} {sLen sCap n sz : Nat} {base : Option Addr} {i : TypeInfo} {new old : List Value} (ht : ts[0]? = some t) (hu : P.underlying t = some (.slice el))
    (htx : ts[1]? = some tx) (hux : P.underlying tx = some dx) (hdx : dx = .string ∨ ∃ e, dx = .slice e) (hsz : sizeT P el = some sz) (hi : P.info? el = some i) (hz : zeroT P el = some z)
    (hlen : ∀ w : World, (Builtin.lenOf x).run P w = .ok n w) (hnew : ∀ w2 : World, w2.heap = w.heap → (Builtin.firstCells sz n x).run P w2 = .ok ⟨new⟩ w2)
    (hold : ∀ w2 : World, w2.heap = w.heap → (Builtin.firstCells sz sLen (.slice base sLen sCap)).run P w2 = .ok ⟨old⟩ w2)
    (hg : sCap < sLen + n) (hby : (sLen + n) * i.bytes ≤ 140737488355328) (hsm : sLen + n ≤ 1073741824) :
    ∃ w', (Builtin.append_ ts ty #[.slice base sLen sCap, x]).run P w = .ok (.slice (some ⟨w.heap.size, 0, none⟩) (sLen + n) (grownCap w (sLen + n) sCap el)) w' ∧
      w'.heap = w.heap.push (.cells ⟨old ++ new ++ (Builtin.zeroCells z.cells (grownCap w (sLen + n) sCap el - (sLen + n))).toList⟩ el) ∧ w'.tape = w.tape ∧ w'.os = w.os ∧ w'.output = w.output := by
  have h63' : ¬ (9223372036854775807 < ((sLen : Int) + (n : Int))) := by omega
  have h48' : ¬ (281474976710656 < Builtin.nextslicecap (sLen + n) sCap * i.bytes) := by
    have := growslice_fits hg hby; omega
  have hnf : ¬ sLen + n ≤ sCap := by omega
  have hti : ∀ w : World, (typeInfo el).run P w = .ok i w := fun w => run_typeInfo w hi
  have hrow : (⟨old ++ new ++ (Builtin.zeroCells z.cells (grownCap w (sLen + n) sCap el - (sLen + n))).toList⟩ : Array Value) = (old ++ new).toArray ++ Builtin.zeroCells z.cells (grownCap w (sLen + n) sCap el - (sLen + n)) := by
    apply Array.ext'; simp
  have hrow2 : (⟨old⟩ ++ (⟨new⟩ ++ Builtin.zeroCells z.cells (grownCap w (sLen + n) sCap el - (sLen + n))) : Array Value) = (old ++ new).toArray ++ Builtin.zeroCells z.cells (grownCap w (sLen + n) sCap el - (sLen + n)) := by
    apply Array.ext'; simp
  rw [hrow]
  unfold grownCap at hrow2
  refine ⟨w.drew.alloc (.cells ((old ++ new).toArray ++ Builtin.zeroCells z.cells (grownCap w (sLen + n) sCap el - (sLen + n))) el), ?_, rfl, rfl, rfl, rfl⟩
  have h1 := hold w.drew rfl
  have h2 := hnew w.drew rfl
  rcases hdx with rfl | ⟨e, rfl⟩
  all_goals
    simp [Builtin.append_, ht, run_und hu, run_sizeT hsz, htx, run_und hux, hlen, hnf, hti, h63', h48', Question.forced, h1, h2, run_zeroT hz, newRow, grownCap, IntKind.max, IntKind.signed, IntKind.bits]
    try rw [hrow2]
end
end Go.Qe
end
