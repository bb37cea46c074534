/- The law BookLooks answers true: its walks joined. Conditions: a book of at most 2^40 parts; MaxLen is an int. -/
import Derived.Test.YtnafcjaddnkioaaGreatDoorQN
import Derived.Test.YtnafcjaddnkioaaGreatDoorQO
import Derived.Test.YtnafcjaddnkioaaGreatDoorQG
import Derived.Test.YtnafcjaddnkioaaGreatDoorQM
import Derived.Test.YtnafcjaddnkioaaGreatDoorQA
import Derived.CallsIn
section
set_option linter.unusedVariables false
set_option linter.unusedSimpArgs false
namespace Go.Proofs.YtnafcjaddnkioaaGreatDoor.PLooks
open Go.Qe Go.RowKit Go.Shelf Go.Proofs.YtnafcjaddnkioaaGreatDoorW.PrintWords Go.Proofs.YtnafcjaddnkioaaGreatDoorW.PrintLast Go.Proofs.YtnafcjaddnkioaaGreatDoorW.PrintMore Go.Proofs.YtnafcjaddnkioaaGreatDoor.Opn
/-- A call that answers v wherever what stood in w still stands, and that leaves what stands. -/
def Sure (w : World) (f : FuncId) (args : Array Value) (v : Value) : Prop := ∀ w', Below w.heap.size w w' → Calls Tryz.prog f args w' fun e w'' => e = .returned v ∧ Below w'.heap.size w' w''
theorem Sure.later {w w1 : World} {f : FuncId} {args : Array Value} {v : Value} (h : Sure w f args v) (hb : Below w.heap.size w w1) : Sure w1 f args v := fun w' h' => h w' (below_step hb h')
def cl37 (x : S37) (A : Option Addr) (c : Nat) : List Value := [.bool (x.f0), .int .i64 (x.f1.f0), .int .i64 (x.f1.f1.f0), .int .i64 (x.f1.f1.f1), .string (x.f1.f2), .bool (x.f1.f3), .int .i64 (x.f1.f4), .int .i64 (x.f2.f0), .int .i64 (x.f2.f1.f0), .int .i64 (x.f2.f1.f1.f0), .int .i64 (x.f2.f1.f1.f1), .string (x.f2.f1.f2), .bool (x.f2.f1.f3), .int .i64 (x.f2.f1.f4), .string (x.f2.f2.f0), .int .i64 (x.f2.f2.f1), .int .i64 (x.f2.f2.f2), .bool (x.f2.f2.f3), .bool (x.f2.f2.f4), .string (x.f2.f3.f0), .int .i64 (x.f2.f3.f1), .int .i64 (x.f2.f3.f2), .bool (x.f2.f3.f3), .bool (x.f2.f3.f4), .string (x.f2.f4), .int .i64 (x.f2.f5), .slice A x.f2.f6.length c]
def cl39 (x : S39) (A : Option Addr) (c : Nat) : List Value := [.int .i64 (x.f0), .int .i64 (x.f1), .bool (x.f2.f0), .int .i64 (x.f2.f1.f0), .int .i64 (x.f2.f1.f1.f0), .int .i64 (x.f2.f1.f1.f1), .string (x.f2.f1.f2), .bool (x.f2.f1.f3), .int .i64 (x.f2.f1.f4), .int .i64 (x.f2.f2.f0), .int .i64 (x.f2.f2.f1.f0), .int .i64 (x.f2.f2.f1.f1.f0), .int .i64 (x.f2.f2.f1.f1.f1), .string (x.f2.f2.f1.f2), .bool (x.f2.f2.f1.f3), .int .i64 (x.f2.f2.f1.f4), .string (x.f2.f2.f2.f0), .int .i64 (x.f2.f2.f2.f1), .int .i64 (x.f2.f2.f2.f2), .bool (x.f2.f2.f2.f3), .bool (x.f2.f2.f2.f4), .string (x.f2.f2.f3.f0), .int .i64 (x.f2.f2.f3.f1), .int .i64 (x.f2.f2.f3.f2), .bool (x.f2.f2.f3.f3), .bool (x.f2.f2.f3.f4), .string (x.f2.f2.f4), .int .i64 (x.f2.f2.f5), .slice A x.f2.f2.f6.length c, .int .i64 (x.f3)]
theorem cl39_part (x : S39) (A : Option Addr) (c : Nat) : cl39 x A c = [.int .i64 x.f0, .int .i64 x.f1] ++ cl37 x.f2 A c ++ [.int .i64 x.f3] := rfl
theorem cl39_one (x : S39) (A : Option Addr) (c : Nat) : ∀ u ∈ cl39 x A c, u.oneCell' = true := by simp [cl39, Value.oneCell']
theorem blk_part {w : World} {g : Nat} {l : List Value} {t : TypeId} {fz : Nat × Nat} (h : w.heap[g]? = some (.cells ⟨l⟩ t fz)) {pre cs post : List Value} (hl : l = pre ++ cs ++ post) (j : Nat) (v : Value) (hj : cs[j]? = some v) :
    w.cell? ((⟨g, pre.length, none⟩ : Addr).add j) = some v := by
  have e : (⟨g, pre.length, none⟩ : Addr).add j = ⟨g, pre.length + j, none⟩ := by unfold Addr.add; split <;> simp_all
  rw [e]
  refine blk_cell0 h _ _ ?_
  obtain ⟨hj', rfl⟩ := List.getElem?_eq_some_iff.1 hj
  rw [hl, List.append_assoc, List.getElem?_append_right (Nat.le_add_right _ _), Nat.add_sub_cancel_left, List.getElem?_append_left hj', List.getElem?_eq_getElem hj']
theorem run_load_cell {P : Program} {o : Oper} {a : Act} {W : World} {t : TypeId} {x : Operand} (ho : o.op = .load t x) {ad : Addr} (ha : a.eval x = .pointer (some ad)) (hagg : ∀ w, (isAgg t).run P w = .ok false w) {v : Value}
    (hc : W.cell? ad = some v) : (execOp a.eval o).run P W = .ok (.value v) W := by
  have h2 : (Instr.sureAddr (.pointer (some ad))).run P W = .ok ad W := rfl
  have h5 : (load ad).run P W = .ok v W := by simp [go_sem, hc]
  unfold execOp
  simp [ho, ha, Sem.run_bind, Instr.loadAt, loadVar, hagg, h2, h5, Result.andThen]
def GetSure (w : World) (f : FuncId) (bk : Value) (sheet col row : Int) (x : S39) (b : Bool) : Prop :=
  ∀ w', Below w.heap.size w w' → Calls Tryz.prog f #[bk, .int .i64 sheet, .int .i64 col, .int .i64 row] w' fun e w'' => ∃ A c, e = .returned (.tuple #[.agg ⟨cl39 x A c⟩, .bool b]) ∧ x.f2.f2.f6.length ≤ c ∧ k35.C w' A x.f2.f2.f6.length x.f2.f2.f6 ∧ Below w'.heap.size w' w''
theorem GetSure.of {w : World} {f : FuncId} {bk : Value} {l : List S65} {sheet col row : Int} (h : ∀ w', Below w.heap.size w w' → Calls Tryz.prog f #[bk, .int .i64 sheet, .int .i64 col, .int .i64 row] w' (GetPost w' l sheet col row)) :
    GetSure w f bk sheet col row ((getR l sheet col row).getD (zc col row)) (getR l sheet col row).isSome := fun w' hb => by
  refine (h w' hb).mono ?_
  rintro e w1 ⟨cs, rfl, hK, hb1⟩
  obtain ⟨A, c, rfl, hl, hC⟩ := k39_open hK
  exact ⟨A, c, rfl, hl, hC, hb1⟩
theorem sure19 (x : S37) (hn : n35 x.f2 ≤ 1099511627776) {w : World} {A A' : Option Addr} {c c' : Nat} (h1 : k35.C w A x.f2.f6.length x.f2.f6) (l1 : x.f2.f6.length ≤ c) (h2 : k35.C w A' x.f2.f6.length x.f2.f6) (l2 : x.f2.f6.length ≤ c') :
    Sure w 19 #[.agg ⟨cl37 x A c⟩, .agg ⟨cl37 x A' c'⟩] (.bool true) := fun w' hb => by
  obtain ⟨k, hk⟩ := sameInput_refl x hn
  exact quireref15_SameInput.calls k _ _ _ _ _ _ _ _ _ _ _ _ _ _ _ _ _ _ _ _ _ _ _ _ _ _ A c x.f2.f6 _ _ _ _ _ _ _ _ _ _ _ _ _ _ _ _ _ _ _ _ _ _ _ _ _ _ A' c' x.f2.f6 true w' (Kd.C_below h1 hb) l1 (Kd.C_below h2 hb) l2 hk
theorem sureE (x : S39) : ∃ r, ∀ (w : World) (A : Option Addr) (c : Nat), k35.C w A x.f2.f2.f6.length x.f2.f2.f6 → x.f2.f2.f6.length ≤ c → Sure w 26 #[.agg ⟨cl39 x A c⟩] (.bool r) ∧ Sure w 28 #[.agg ⟨cl39 x A c⟩] (.bool r) := by
  obtain ⟨r, k, h1, h2⟩ := empty_same x
  exact ⟨r, fun w A c hC hl => ⟨fun w' hb => book_Empty.calls k _ _ _ _ _ _ _ _ _ _ _ _ _ _ _ _ _ _ _ _ _ _ _ _ _ _ _ _ A c x.f2.f2.f6 _ r w' (Kd.C_below hC hb) hl h2, fun w' hb => quireref15_Empty.calls k _ _ _ _ _ _ _ _ _ _ _ _ _ _ _ _ _ _ _ _ _ _ _ _ _ _ _ _ A c x.f2.f2.f6 _ r w' (Kd.C_below hC hb) hl h1⟩⟩
structure BkC (w : World) (A0 : Option Addr) (c0 : Nat) (l0 : List S65) (A1 : Option Addr) (c1 : Nat) (l1 : List S67) (A2 : Option Addr) (c2 : Nat) (l2 : List ByteArray) : Prop where
  h0 : Kd.C k65 w A0 l0.length l0
  n0 : l0.length ≤ c0
  h1 : Kd.C k67 w A1 l1.length l1
  n1 : l1.length ≤ c1
  h2 : Kd.C Kd.string w A2 l2.length l2
  n2 : l2.length ≤ c2
section
variable {w : World} {A0 : Option Addr} {c0 : Nat} {l0 : List S65} {A1 : Option Addr} {c1 : Nat} {l1 : List S67} {A2 : Option Addr} {c2 : Nat} {l2 : List ByteArray}
theorem BkC.below (h : BkC w A0 c0 l0 A1 c1 l1 A2 c2 l2) {w' : World} (hb : Below w.heap.size w w') : BkC w' A0 c0 l0 A1 c1 l1 A2 c2 l2 := ⟨Kd.C_below h.h0 hb, h.n0, Kd.C_below h.h1 hb, h.n1, Kd.C_below h.h2 hb, h.n2⟩
theorem sure9 (h : BkC w A0 c0 l0 A1 c1 l1 A2 c2 l2) (hb : sumL m65 l0 ≤ 1099511627776) (hb1 : sumL m67 l1 ≤ 1099511627776) : ∃ r, Sure w 9 #[.agg #[.slice A0 l0.length c0, .slice A1 l1.length c1, .slice A2 l2.length c2]] (.bool r) := by
  obtain ⟨k, r, hk⟩ := small_total l0 l1 l2 hb hb1
  exact ⟨r, fun w' hw => by have g := h.below hw; exact quirelaw15_Small.calls k A0 c0 l0 A1 c1 l1 A2 c2 l2 r w' g.h0 g.n0 g.h1 g.n1 g.h2 g.n2 hk⟩
theorem sure29 (h : BkC w A0 c0 l0 A1 c1 l1 A2 c2 l2) (hb : l0.length ≤ 1099511627776) (hb1 : l1.length ≤ 1099511627776) (hb2 : l2.length ≤ 1099511627776) (s : ByteArray) : Sure w 29 #[.agg #[.slice A0 l0.length c0, .slice A1 l1.length c1, .slice A2 l2.length c2], .string s] (.int .i64 (idx s (l0.map (·.f0)) 0)) := fun w' hw => by
  obtain ⟨k, hk⟩ := sheet_b l0 l1 l2 s hb hb1
  have g := h.below hw
  exact book_Sheet.calls k A0 c0 l0 A1 c1 l1 A2 c2 l2 s _ w' g.h0 g.n0 g.h1 g.n1 g.h2 g.n2 hk
theorem sure30 (h : BkC w A0 c0 l0 A1 c1 l1 A2 c2 l2) (hb : l0.length ≤ 1099511627776) (hb1 : l1.length ≤ 1099511627776) (hb2 : l2.length ≤ 1099511627776) (s : ByteArray) : Sure w 30 #[.agg #[.slice A0 l0.length c0, .slice A1 l1.length c1, .slice A2 l2.length c2], .string s] (.int .i64 (idx s (l0.map (·.f0)) 0)) := fun w' hw => by
  obtain ⟨k, hk⟩ := sheet_r l0 l1 l2 s hb
  have g := h.below hw
  exact quireref15_Sheet.calls k A0 c0 l0 A1 c1 l1 A2 c2 l2 s _ w' g.h0 g.n0 g.h1 g.n1 g.h2 g.n2 hk
theorem sure31 (h : BkC w A0 c0 l0 A1 c1 l1 A2 c2 l2) (hb : l0.length ≤ 1099511627776) (hb1 : l1.length ≤ 1099511627776) (hb2 : l2.length ≤ 1099511627776) (s : ByteArray) : Sure w 31 #[.agg #[.slice A0 l0.length c0, .slice A1 l1.length c1, .slice A2 l2.length c2], .string s] (.int .i64 (idx s (l1.map (·.f0)) 0)) := fun w' hw => by
  obtain ⟨k, hk⟩ := find_b l0 l1 l2 s hb hb1
  have g := h.below hw
  exact book_Find.calls k A0 c0 l0 A1 c1 l1 A2 c2 l2 s _ w' g.h0 g.n0 g.h1 g.n1 g.h2 g.n2 hk
theorem sure32 (h : BkC w A0 c0 l0 A1 c1 l1 A2 c2 l2) (hb : l0.length ≤ 1099511627776) (hb1 : l1.length ≤ 1099511627776) (hb2 : l2.length ≤ 1099511627776) (s : ByteArray) : Sure w 32 #[.agg #[.slice A0 l0.length c0, .slice A1 l1.length c1, .slice A2 l2.length c2], .string s] (.int .i64 (idx s (l1.map (·.f0)) 0)) := fun w' hw => by
  obtain ⟨k, hk⟩ := find_r l0 l1 l2 s hb1
  have g := h.below hw
  exact quireref15_Find.calls k A0 c0 l0 A1 c1 l1 A2 c2 l2 s _ w' g.h0 g.n0 g.h1 g.n1 g.h2 g.n2 hk
theorem sure33 (h : BkC w A0 c0 l0 A1 c1 l1 A2 c2 l2) (hb : l0.length ≤ 1099511627776) (hb1 : l1.length ≤ 1099511627776) (hb2 : l2.length ≤ 1099511627776) (s : ByteArray) : Sure w 33 #[.agg #[.slice A0 l0.length c0, .slice A1 l1.length c1, .slice A2 l2.length c2], .string s] (.int .i64 (idx s l2 0)) := fun w' hw => by
  obtain ⟨k, hk⟩ := style_b l0 l1 l2 s hb2
  have g := h.below hw
  exact book_Style.calls k A0 c0 l0 A1 c1 l1 A2 c2 l2 s _ w' g.h0 g.n0 g.h1 g.n1 g.h2 g.n2 hk
theorem sure34 (h : BkC w A0 c0 l0 A1 c1 l1 A2 c2 l2) (hb : l0.length ≤ 1099511627776) (hb1 : l1.length ≤ 1099511627776) (hb2 : l2.length ≤ 1099511627776) (s : ByteArray) : Sure w 34 #[.agg #[.slice A0 l0.length c0, .slice A1 l1.length c1, .slice A2 l2.length c2], .string s] (.int .i64 (idx s l2 0)) := fun w' hw => by
  obtain ⟨k, hk⟩ := style_r l0 l1 l2 s hb2
  have g := h.below hw
  exact quireref15_Style.calls k A0 c0 l0 A1 c1 l1 A2 c2 l2 s _ w' g.h0 g.n0 g.h1 g.n1 g.h2 g.n2 hk
end
def looks.T5 : Bool × List (List Nat × List Nat) := (true, [([], []), ([], []), ([0, 1], [0, 1]), ([2], [2]), ([3], [3]), ([4, 3], [3, 4]), ([3], [3]), ([6, 3], [3, 6]), ([5, 7, 3], [3, 5, 7]), ([3, 8], [3, 8]), ([9, 3], [9]), ([10], [10]), ([11, 10], [10, 11]), ([10], [10]), ([13, 10], [10, 13]), ([12, 14, 10], [10, 12, 14]), ([10, 15], [10, 15]), ([16, 10], [16]), ([17], [17]), ([18, 17], [17, 18]), ([17], [17]), ([20, 17], [17, 20]), ([19, 21, 17], [17, 19, 21]), ([17, 22], [17, 22]), ([23, 17], [23]), ([24], [24]), ([25, 24], [24, 25]), ([24], [24]), ([27, 24], [24, 27]), ([26, 28, 24, 24], [24, 26, 28]), ([24, 29], [24, 29]), ([30, 29], [30]), ([31], [31]), ([32, 31, 31], [31, 32]), ([31], [31]), ([34, 33, 31], [31, 34]), ([33, 35, 31], [31, 33, 35]), ([31, 36], [31, 36]), ([37, 35], [37]), ([38], [38]), ([38], [38]), ([39, 40, 38, 38], [38, 39, 40]), ([38], [38]), ([38], [38]), ([42, 43, 41, 38], [38, 42, 43]), ([41, 44, 38], [38, 41, 44]), ([38, 45], [38, 45]), ([46, 44], [46]), ([47], [47]), ([47], [47]), ([48, 49, 47, 47], [47, 48, 49]), ([47], [47]), ([47], [47]), ([51, 52, 50, 47], [47, 51, 52]), ([50, 53, 47], [47, 50, 53]), ([47, 54], [47, 54]), ([55, 53], [55]), ([56], [56]), ([56], [56]), ([57, 58, 56, 56], [56, 57, 58]), ([56], [56]), ([56], [56]), ([60, 61, 59, 56], [56, 60, 61]), ([59, 62, 56], [56, 59, 62]), ([56, 63], [56, 63]), ([64, 62], [64]), ([65, 65], [65]), ([65, 66], [65, 66]), ([67, 66, 0, 1, 2, 3, 4, 5, 6, 7, 8, 9, 10, 11, 12, 13, 14, 15, 16, 17, 18, 19, 20, 21, 22, 23, 24, 25, 26, 27, 28, 29, 30, 31, 32, 33, 34, 35, 36, 37, 38, 39, 40, 41, 42, 43, 44, 45, 46, 47, 48, 49, 50, 51, 52, 53, 54, 55, 56, 57, 58, 59, 60, 61, 62, 63, 64, 65, 66, 67], [67])])
def looks.B5 : List Nat := [0, 0, 3, 7, 15, 31, 15, 79, 255, 511, 1023, 2047, 4095, 2047, 10239, 32767, 65535, 131071, 262143, 524287, 262143, 1310719, 4194303, 8388607, 16777215, 33554431, 67108863, 33554431, 167772159, 536870911, 1073741823, 2147483647, 4294967295, 8589934591, 4294967295, 34359738367, 68719476735, 137438953471, 274877906943, 549755813887, 549755813887, 2199023255551, 549755813887, 549755813887, 17592186044415, 35184372088831, 70368744177663, 140737488355327, 281474976710655, 281474976710655, 1125899906842623, 281474976710655, 281474976710655, 9007199254740991, 18014398509481983, 36028797018963967, 72057594037927935, 144115188075855871, 144115188075855871, 576460752303423487, 144115188075855871, 144115188075855871, 4611686018427387903, 9223372036854775807, 18446744073709551615, 36893488147419103231, 73786976294838206463, 147573952589676412927, 295147905179352825855]
theorem looks.tab5 : rtab .any (opsOf Tryz.f7 5) = looks.T5 := by kernel_rfl
theorem looks.bits5 : waitsOk looks.T5.2 looks.B5 = true := by kernel_rfl
attribute [local go_sem] beq_self_eq_true
set_option maxHeartbeats 4000000 in
set_option maxRecDepth 100000 in
theorem looks_big (w : World) (A0 : Option Addr) (n0 c0 : Nat) (A1 : Option Addr) (n1 c1 : Nat) (A2 : Option Addr) (n2 c2 : Nat) (name : ByteArray) (sheet col row : Int) (H9 : Sure w 9 #[.agg #[.slice A0 n0 c0, .slice A1 n1 c1, .slice A2 n2 c2]] (.bool false)) (H12 : Sure w 12 #[] (.bool true)) :
    Calls Tryz.prog 7 #[.agg #[.slice A0 n0 c0, .slice A1 n1 c1, .slice A2 n2 c2], .string name, .int .i64 sheet, .int .i64 col, .int .i64 row] w fun e w' => e = .returned (.bool true) ∧ Below w.heap.size w w' := by
  have hu26 := Tryz.underlying26
  have HB := Aside0.mk (Below.refl w.heap.size w)
  have K9 := Aside0.mk H9
  have K12 := Aside0.mk H12
  clear H9 H12
  go_enter Tryz.func7, Tryz.ntmps7
  go_wp2_with (first | ((with_reducible refine gate_dst (N := 5) rfl ?_); refine box_event ?hg (N := 5) ?hd (cs := #[.slice A0 n0 c0, .slice A1 n1 c1, .slice A2 n2 c2]) (t := 26) ?hr ?_; (case hd => rfl); (case hg => rfl); (case hr => first | (go_simp; done) | (go_simp; rfl)); intro g5 hg wg5 BX_g5 hb; have GEHBg5 := Aside0.mk ((by rw [hg]; exact below_size HB.out) : w.heap.size ≤ g5); have nHB := Aside0.mk (below_step HB.out hb); clear HB; have HB := nHB; clear nHB; have BKg5 := Aside0.mk BX_g5; clear BX_g5 hb hg) | ((with_reducible refine gate_load (t := 26) rfl ?_); refine wload rfl rfl (by first | rfl | (go_simp; done) | (go_simp; rfl)) Tryz.isAgg26 (cs := [.slice A0 n0 c0, .slice A1 n1 c1, .slice A2 n2 c2]) Tryz.sizeOf26 (blk_cells BKg5.out) ?_) | (go_at_call 9; refine (K9.out _ HB.out).mono ?_; rintro e w9 ⟨rfl, hb⟩; have nHB := Aside0.mk (below_step HB.out hb); have nBKg5 := Aside0.mk (blk_below BKg5.out hb); clear HB; have HB := nHB; clear nHB; clear BKg5; have BKg5 := nBKg5; clear nBKg5; clear hb) | (go_at_call 12; refine (K12.out _ HB.out).mono ?_; rintro e w12 ⟨rfl, hb⟩; have nHB := Aside0.mk (below_step HB.out hb); have nBKg5 := Aside0.mk (blk_below BKg5.out hb); clear HB; have HB := nHB; clear nHB; clear BKg5; have BKg5 := nBKg5; clear nBKg5; clear hb))
  go_ret
  exact ⟨rfl, HB.out⟩
set_option maxHeartbeats 16000000 in
set_option maxRecDepth 100000 in
theorem looks_walk (w : World) (A0 : Option Addr) (n0 c0 : Nat) (A1 : Option Addr) (n1 c1 : Nat) (A2 : Option Addr) (n2 c2 : Nat) (name : ByteArray) (sheet col row : Int) (x : S39) (b : Bool) (i1 i2 i3 : Int) (hn : n35 x.f2.f2 ≤ 1099511627776) (H9 : Sure w 9 #[.agg #[.slice A0 n0 c0, .slice A1 n1 c1, .slice A2 n2 c2]] (.bool true)) (H24 : GetSure w 24 (.agg #[.slice A0 n0 c0, .slice A1 n1 c1, .slice A2 n2 c2]) sheet col row x b) (H27 : GetSure w 27 (.agg #[.slice A0 n0 c0, .slice A1 n1 c1, .slice A2 n2 c2]) sheet col row x b)
    (H29 : Sure w 29 #[.agg #[.slice A0 n0 c0, .slice A1 n1 c1, .slice A2 n2 c2], .string name] (.int .i64 i1)) (H30 : Sure w 30 #[.agg #[.slice A0 n0 c0, .slice A1 n1 c1, .slice A2 n2 c2], .string name] (.int .i64 i1)) (H31 : Sure w 31 #[.agg #[.slice A0 n0 c0, .slice A1 n1 c1, .slice A2 n2 c2], .string name] (.int .i64 i2)) (H32 : Sure w 32 #[.agg #[.slice A0 n0 c0, .slice A1 n1 c1, .slice A2 n2 c2], .string name] (.int .i64 i2)) (H33 : Sure w 33 #[.agg #[.slice A0 n0 c0, .slice A1 n1 c1, .slice A2 n2 c2], .string name] (.int .i64 i3)) (H34 : Sure w 34 #[.agg #[.slice A0 n0 c0, .slice A1 n1 c1, .slice A2 n2 c2], .string name] (.int .i64 i3)) (H12 : Sure w 12 #[] (.bool true)) :
    Calls Tryz.prog 7 #[.agg #[.slice A0 n0 c0, .slice A1 n1 c1, .slice A2 n2 c2], .string name, .int .i64 sheet, .int .i64 col, .int .i64 row] w fun e w' => e = .returned (.bool true) ∧ Below w.heap.size w w' := by
  have hu26 := Tryz.underlying26
  have hu37 := Tryz.underlying37
  have hu39 := Tryz.underlying39
  have HB := Aside0.mk (Below.refl w.heap.size w)
  obtain ⟨r, hE⟩ := sureE x
  have KE := Aside0.mk hE
  have HN := Aside0.mk hn
  clear hE hn
  have K9 := Aside0.mk H9
  have K24 := Aside0.mk H24
  have K27 := Aside0.mk H27
  have K29 := Aside0.mk H29
  have K30 := Aside0.mk H30
  have K31 := Aside0.mk H31
  have K32 := Aside0.mk H32
  have K33 := Aside0.mk H33
  have K34 := Aside0.mk H34
  have K12 := Aside0.mk H12
  clear H9 H24 H27 H29 H30 H31 H32 H33 H34 H12
  go_enter Tryz.func7, Tryz.ntmps7
  go_upto_region 5 with (first | ((with_reducible refine gate_dst (N := 5) rfl ?_); refine box_event ?hg (N := 5) ?hd (cs := #[.slice A0 n0 c0, .slice A1 n1 c1, .slice A2 n2 c2]) (t := 26) ?hr ?_; (case hd => rfl); (case hg => rfl); (case hr => first | (go_simp; done) | (go_simp; rfl)); intro g5 hg wg5 BX_g5 hb; have GEHBg5 := Aside0.mk ((by rw [hg]; exact below_size HB.out) : w.heap.size ≤ g5); have nHB := Aside0.mk (below_step HB.out hb); clear HB; have HB := nHB; clear nHB; have BKg5 := Aside0.mk BX_g5; clear BX_g5 hb hg) | ((with_reducible refine gate_load (t := 26) rfl ?_); refine wload rfl rfl (by first | rfl | (go_simp; done) | (go_simp; rfl)) Tryz.isAgg26 (cs := [.slice A0 n0 c0, .slice A1 n1 c1, .slice A2 n2 c2]) Tryz.sizeOf26 (blk_cells BKg5.out) ?_) | (go_at_call 9; refine (K9.out _ HB.out).mono ?_; rintro e w9 ⟨rfl, hb⟩; have nHB := Aside0.mk (below_step HB.out hb); have nBKg5 := Aside0.mk (blk_below BKg5.out hb); clear HB; have HB := nHB; clear nHB; clear BKg5; have BKg5 := nBKg5; clear nBKg5; clear hb) | (go_at_call 24; refine (K24.out _ HB.out).mono ?_; rintro e w24 ⟨Aa, ca, rfl, hla, hCa, hb⟩; have nHB := Aside0.mk (below_step HB.out hb); have nBKg5 := Aside0.mk (blk_below BKg5.out hb); clear HB; have HB := nHB; clear nHB; clear BKg5; have BKg5 := nBKg5; clear nBKg5; have HBa := Aside0.mk hb; have HCa := Aside0.mk hCa; have HLa := Aside0.mk hla; clear hCa hla; clear hb) | ((with_reducible refine gate_dst (N := 11) rfl ?_); refine box_event ?hg (N := 11) ?hd (cs := #[.int .i64 0, .int .i64 0, .bool false, .int .i64 0, .int .i64 0, .int .i64 0, .string (⟨#[]⟩ : ByteArray), .bool false, .int .i64 0, .int .i64 0, .int .i64 0, .int .i64 0, .int .i64 0, .string (⟨#[]⟩ : ByteArray), .bool false, .int .i64 0, .string (⟨#[]⟩ : ByteArray), .int .i64 0, .int .i64 0, .bool false, .bool false, .string (⟨#[]⟩ : ByteArray), .int .i64 0, .int .i64 0, .bool false, .bool false, .string (⟨#[]⟩ : ByteArray), .int .i64 0, .slice none 0 0, .int .i64 0]) (t := 39) ?hr ?_; (case hd => rfl); (case hg => rfl); (case hr => first | (go_simp; done) | (go_simp; rfl)); intro g11 hg wg11 BX_g11 hb; have GEHBg11 := Aside0.mk ((by rw [hg]; exact below_size HB.out) : w.heap.size ≤ g11); have GEHBag11 := Aside0.mk ((by rw [hg]; exact below_size HBa.out) : w9.heap.size ≤ g11); have NEg5g11 := Aside0.mk ((by rw [hg]; exact Nat.ne_of_lt (blk_lt BKg5.out)) : g5 ≠ g11); have nHB := Aside0.mk (below_step HB.out hb); have nHBa := Aside0.mk (below_step HBa.out hb); have nBKg5 := Aside0.mk (blk_below BKg5.out hb); clear HB; have HB := nHB; clear nHB; clear HBa; have HBa := nHBa; clear nHBa; clear BKg5; have BKg5 := nBKg5; clear nBKg5; have BKg11 := Aside0.mk BX_g11; clear BX_g11 hb hg) | ((with_reducible refine gate_store (t := 39) rfl ?_); refine wstore rfl rfl rfl (by first | rfl | (go_simp; done) | (go_simp; rfl)) (vs := cl39 x Aa ca) (by first | rfl | (go_simp; done) | (go_simp; rfl)) Tryz.sizeOf39 BKg11.out rfl (cl39_one _ _ _) ?_; intro ws11 Bs Ho Hb; have nHB := Aside0.mk (HB.out.trans (Hb _ GEHBg11.out (below_size HB.out))); have nHBa := Aside0.mk (HBa.out.trans (Hb _ GEHBag11.out (below_size HBa.out))); have nBKg5 := Aside0.mk ((Ho _ NEg5g11.out).trans BKg5.out); clear HB; have HB := nHB; clear nHB; clear HBa; have HBa := nHBa; clear nHBa; clear BKg5; have BKg5 := nBKg5; clear nBKg5; clear BKg11; have BKg11 := Aside0.mk Bs; clear Bs Ho Hb) | (go_at_call 27; refine (K27.out _ HB.out).mono ?_; rintro e w27 ⟨Ab, cb, rfl, hlb, hCb, hb⟩; have nHB := Aside0.mk (below_step HB.out hb); have nHBa := Aside0.mk (below_step HBa.out hb); have nBKg5 := Aside0.mk (blk_below BKg5.out hb); have nBKg11 := Aside0.mk (blk_below BKg11.out hb); clear HB; have HB := nHB; clear nHB; clear HBa; have HBa := nHBa; clear nHBa; clear BKg5; have BKg5 := nBKg5; clear nBKg5; clear BKg11; have BKg11 := nBKg11; clear nBKg11; have HBb := Aside0.mk hb; have HCb := Aside0.mk hCb; have HLb := Aside0.mk hlb; clear hCb hlb; clear hb) | ((with_reducible refine gate_dst (N := 13) rfl ?_); refine box_event ?hg (N := 13) ?hd (cs := #[.int .i64 0, .int .i64 0, .bool false, .int .i64 0, .int .i64 0, .int .i64 0, .string (⟨#[]⟩ : ByteArray), .bool false, .int .i64 0, .int .i64 0, .int .i64 0, .int .i64 0, .int .i64 0, .string (⟨#[]⟩ : ByteArray), .bool false, .int .i64 0, .string (⟨#[]⟩ : ByteArray), .int .i64 0, .int .i64 0, .bool false, .bool false, .string (⟨#[]⟩ : ByteArray), .int .i64 0, .int .i64 0, .bool false, .bool false, .string (⟨#[]⟩ : ByteArray), .int .i64 0, .slice none 0 0, .int .i64 0]) (t := 39) ?hr ?_; (case hd => rfl); (case hg => rfl); (case hr => first | (go_simp; done) | (go_simp; rfl)); intro g13 hg wg13 BX_g13 hb; have GEHBg13 := Aside0.mk ((by rw [hg]; exact below_size HB.out) : w.heap.size ≤ g13); have GEHBag13 := Aside0.mk ((by rw [hg]; exact below_size HBa.out) : w9.heap.size ≤ g13); have GEHBbg13 := Aside0.mk ((by rw [hg]; exact below_size HBb.out) : ws11.heap.size ≤ g13); have NEg5g13 := Aside0.mk ((by rw [hg]; exact Nat.ne_of_lt (blk_lt BKg5.out)) : g5 ≠ g13); have NEg11g13 := Aside0.mk ((by rw [hg]; exact Nat.ne_of_lt (blk_lt BKg11.out)) : g11 ≠ g13); have nHB := Aside0.mk (below_step HB.out hb); have nHBa := Aside0.mk (below_step HBa.out hb); have nHBb := Aside0.mk (below_step HBb.out hb); have nBKg5 := Aside0.mk (blk_below BKg5.out hb); have nBKg11 := Aside0.mk (blk_below BKg11.out hb); clear HB; have HB := nHB; clear nHB; clear HBa; have HBa := nHBa; clear nHBa; clear HBb; have HBb := nHBb; clear nHBb; clear BKg5; have BKg5 := nBKg5; clear nBKg5; clear BKg11; have BKg11 := nBKg11; clear nBKg11; have BKg13 := Aside0.mk BX_g13; clear BX_g13 hb hg) | ((with_reducible refine gate_store (t := 39) rfl ?_); refine wstore rfl rfl rfl (by first | rfl | (go_simp; done) | (go_simp; rfl)) (vs := cl39 x Ab cb) (by first | rfl | (go_simp; done) | (go_simp; rfl)) Tryz.sizeOf39 BKg13.out rfl (cl39_one _ _ _) ?_; intro ws13 Bs Ho Hb; have nHB := Aside0.mk (HB.out.trans (Hb _ GEHBg13.out (below_size HB.out))); have nHBa := Aside0.mk (HBa.out.trans (Hb _ GEHBag13.out (below_size HBa.out))); have nHBb := Aside0.mk (HBb.out.trans (Hb _ GEHBbg13.out (below_size HBb.out))); have nBKg5 := Aside0.mk ((Ho _ NEg5g13.out).trans BKg5.out); have nBKg11 := Aside0.mk ((Ho _ NEg11g13.out).trans BKg11.out); clear HB; have HB := nHB; clear nHB; clear HBa; have HBa := nHBa; clear nHBa; clear HBb; have HBb := nHBb; clear nHBb; clear BKg5; have BKg5 := nBKg5; clear nBKg5; clear BKg11; have BKg11 := nBKg11; clear nBKg11; clear BKg13; have BKg13 := Aside0.mk Bs; clear Bs Ho Hb))
  have hCa := Kd.C_below HCa.out HBa.out
  have hCb := Kd.C_below HCb.out HBb.out
  have K19 := Aside0.mk (sure19 x.f2 HN.out hCa HLa.out hCb HLb.out)
  obtain ⟨hE1, hE2⟩ := KE.out ws13 Aa ca hCa HLa.out
  have K26 := Aside0.mk hE1
  have K28 := Aside0.mk hE2
  clear hE1 hE2 hCa hCb
  have L29 := Aside0.mk (K29.out.later HB.out)
  have L30 := Aside0.mk (K30.out.later HB.out)
  have L31 := Aside0.mk (K31.out.later HB.out)
  have L32 := Aside0.mk (K32.out.later HB.out)
  have L33 := Aside0.mk (K33.out.later HB.out)
  have L34 := Aside0.mk (K34.out.later HB.out)
  have L12 := Aside0.mk (K12.out.later HB.out)
  clear K9 K24 K27 K29 K30 K31 K32 K33 K34 K12
  refine start_ (n := 69) (S := fun w' => Below ws13.heap.size ws13 w') (ds := []) (tf 0 69) (by kernel_rfl) rfl rfl ((below_drew1 (Below.refl _ _))) (fun hHeld => ?_)
  refine with_tabW looks.tab5 looks.bits5 (fun HT_ HW_ => ?_)
  refine pure_ (i := 0) (N := some 35) (v := ?_) (a' := ?_) (tf 1 68) rfl rfl (any_of HT_.out (by kernel_rfl)) (fun _ _ _ h => h) (Or.inl ⟨by rfl, ?_⟩) ?_ ?_
  rotate_left
  · intro w'
    go_simp
    with_reducible rfl
  rotate_left
  · simp only [Act.put, List.setIfInBounds_toArray, List.set_cons_zero, List.set_cons_succ, i64_w, i32_w]
    rfl
  refine pure_ (i := 1) (N := some 36) (v := ?_) (a' := ?_) (tf 2 67) rfl rfl (any_of HT_.out (by kernel_rfl)) (fun _ _ _ h => h) (Or.inl ⟨by rfl, ?_⟩) ?_ ?_
  rotate_left
  · intro w'
    go_simp
    with_reducible rfl
  rotate_left
  · simp only [Act.put, List.setIfInBounds_toArray, List.set_cons_zero, List.set_cons_succ, i64_w, i32_w]
    rfl
  refine pure_ (i := 2) (N := some 37) (v := ?_) (a' := ?_) (tf 3 66) rfl rfl (any_of HT_.out (by kernel_rfl)) (fun _ _ _ h => h) (Or.inl ⟨by rfl, ?_⟩) ?_ ?_
  rotate_left
  · intro w'
    go_simp
    with_reducible rfl
  rotate_left
  · simp only [Act.put, List.setIfInBounds_toArray, List.set_cons_zero, List.set_cons_succ, i64_w, i32_w]
    rfl
  refine pure_ (i := 3) (N := some 38) (v := ?_) (a' := ?_) (tf 4 65) rfl rfl (any_of HT_.out (by kernel_rfl)) (fun _ _ _ h => h) (Or.inl ⟨by rfl, ?_⟩) ?_ ?_
  rotate_left
  · intro w'
    go_simp
    with_reducible rfl
  rotate_left
  · simp only [Act.put, List.setIfInBounds_toArray, List.set_cons_zero, List.set_cons_succ, i64_w, i32_w]
    rfl
  refine pure_ (i := 4) (N := some 39) (v := ?_) (a' := ?_) (tf 5 64) rfl rfl (any_of HT_.out (by kernel_rfl)) (fun _ _ _ h => h) (Or.inl ⟨by rfl, ?_⟩) ?_ ?_
  rotate_left
  · intro w'
    go_simp
    with_reducible rfl
  rotate_left
  · simp only [Act.put, List.setIfInBounds_toArray, List.set_cons_zero, List.set_cons_succ, i64_w, i32_w]
    rfl
  refine pure_ (i := 6) (N := some 41) (v := ?_) (a' := ?_) #[true, true, true, true, true, false, true, false, false, false, false, false, false, false, false, false, false, false, false, false, false, false, false, false, false, false, false, false, false, false, false, false, false, false, false, false, false, false, false, false, false, false, false, false, false, false, false, false, false, false, false, false, false, false, false, false, false, false, false, false, false, false, false, false, false, false, false, false, false] rfl rfl (any_of HT_.out (by kernel_rfl)) (fun _ _ _ h => h) (Or.inl ⟨by rfl, ?_⟩) ?_ ?_
  rotate_left
  · intro w'
    go_simp
    with_reducible rfl
  rotate_left
  · simp only [Act.put, List.setIfInBounds_toArray, List.set_cons_zero, List.set_cons_succ, i64_w, i32_w]
    rfl
  refine take_ (i := 5) (N := some 40) (v := ?_) (a' := ?_) (tf 7 62) rfl rfl (take_ofW HT_.out HW_.out (by kernel_rfl)) (fun _ _ _ h => h) (Or.inl ⟨by rfl, ?_⟩) hHeld ?_ ?_
  rotate_left
  · intro w' s0
    refine Eq.trans (run_load_cell (t := 3) (by exact rfl) (by first | rfl | (go_simp; done) | (go_simp; rfl)) Tryz.isAgg3 (blk_cell0 (blk_below BKg11.out s0) 0 (.int .i64 x.f0) rfl)) ?_
    with_reducible rfl
  rotate_left
  · simp only [Act.put, List.setIfInBounds_toArray, List.set_cons_zero, List.set_cons_succ, i64_w, i32_w]
    rfl
  refine take_ (i := 7) (N := some 42) (v := ?_) (a' := ?_) (tf 8 61) rfl rfl (take_ofW HT_.out HW_.out (by kernel_rfl)) (fun _ _ _ h => h) (Or.inl ⟨by rfl, ?_⟩) hHeld ?_ ?_
  rotate_left
  · intro w' s0
    refine Eq.trans (run_load_cell (t := 3) (by exact rfl) (by first | rfl | (go_simp; done) | (go_simp; rfl)) Tryz.isAgg3 (blk_cell0 (blk_below BKg13.out s0) 0 (.int .i64 x.f0) rfl)) ?_
    with_reducible rfl
  rotate_left
  · simp only [Act.put, List.setIfInBounds_toArray, List.set_cons_zero, List.set_cons_succ, i64_w, i32_w]
    rfl
  refine pure_ (i := 8) (N := some 43) (v := ?_) (a' := ?_) (tf 9 60) rfl rfl (any_of HT_.out (by kernel_rfl)) (fun _ _ _ h => h) (Or.inl ⟨by rfl, ?_⟩) ?_ ?_
  rotate_left
  · intro w'
    go_simp
    with_reducible rfl
  rotate_left
  · simp only [Act.put, List.setIfInBounds_toArray, List.set_cons_zero, List.set_cons_succ, i64_w, i32_w]
    rfl
  refine pure_ (i := 9) (N := some 44) (v := ?_) (a' := ?_) (tf 10 59) rfl rfl (any_of HT_.out (by kernel_rfl)) (fun _ _ _ h => h) (Or.inl ⟨by rfl, ?_⟩) ?_ ?_
  rotate_left
  · intro w'
    go_simp
    with_reducible rfl
  rotate_left
  · simp only [Act.put, List.setIfInBounds_toArray, List.set_cons_zero, List.set_cons_succ, i64_w, i32_w]
    rfl
  refine pure_ (i := 10) (N := some 45) (v := ?_) (a' := ?_) (tf 11 58) rfl rfl (any_of HT_.out (by kernel_rfl)) (fun _ _ _ h => h) (Or.inl ⟨by rfl, ?_⟩) ?_ ?_
  rotate_left
  · intro w'
    go_simp
    with_reducible rfl
  rotate_left
  · simp only [Act.put, List.setIfInBounds_toArray, List.set_cons_zero, List.set_cons_succ, i64_w, i32_w]
    rfl
  refine pure_ (i := 11) (N := some 46) (v := ?_) (a' := ?_) (tf 12 57) rfl rfl (any_of HT_.out (by kernel_rfl)) (fun _ _ _ h => h) (Or.inl ⟨by rfl, ?_⟩) ?_ ?_
  rotate_left
  · intro w'
    go_simp
    with_reducible rfl
  rotate_left
  · simp only [Act.put, List.setIfInBounds_toArray, List.set_cons_zero, List.set_cons_succ, i64_w, i32_w]
    rfl
  refine pure_ (i := 13) (N := some 48) (v := ?_) (a' := ?_) #[true, true, true, true, true, true, true, true, true, true, true, true, false, true, false, false, false, false, false, false, false, false, false, false, false, false, false, false, false, false, false, false, false, false, false, false, false, false, false, false, false, false, false, false, false, false, false, false, false, false, false, false, false, false, false, false, false, false, false, false, false, false, false, false, false, false, false, false, false] rfl rfl (any_of HT_.out (by kernel_rfl)) (fun _ _ _ h => h) (Or.inl ⟨by rfl, ?_⟩) ?_ ?_
  rotate_left
  · intro w'
    go_simp
    with_reducible rfl
  rotate_left
  · simp only [Act.put, List.setIfInBounds_toArray, List.set_cons_zero, List.set_cons_succ, i64_w, i32_w]
    rfl
  refine take_ (i := 12) (N := some 47) (v := ?_) (a' := ?_) (tf 14 55) rfl rfl (take_ofW HT_.out HW_.out (by kernel_rfl)) (fun _ _ _ h => h) (Or.inl ⟨by rfl, ?_⟩) hHeld ?_ ?_
  rotate_left
  · intro w' s0
    refine Eq.trans (run_load_cell (t := 3) (by exact rfl) (by first | rfl | (go_simp; done) | (go_simp; rfl)) Tryz.isAgg3 (blk_cell0 (blk_below BKg11.out s0) 1 (.int .i64 x.f1) rfl)) ?_
    with_reducible rfl
  rotate_left
  · simp only [Act.put, List.setIfInBounds_toArray, List.set_cons_zero, List.set_cons_succ, i64_w, i32_w]
    rfl
  refine take_ (i := 14) (N := some 49) (v := ?_) (a' := ?_) (tf 15 54) rfl rfl (take_ofW HT_.out HW_.out (by kernel_rfl)) (fun _ _ _ h => h) (Or.inl ⟨by rfl, ?_⟩) hHeld ?_ ?_
  rotate_left
  · intro w' s0
    refine Eq.trans (run_load_cell (t := 3) (by exact rfl) (by first | rfl | (go_simp; done) | (go_simp; rfl)) Tryz.isAgg3 (blk_cell0 (blk_below BKg13.out s0) 1 (.int .i64 x.f1) rfl)) ?_
    with_reducible rfl
  rotate_left
  · simp only [Act.put, List.setIfInBounds_toArray, List.set_cons_zero, List.set_cons_succ, i64_w, i32_w]
    rfl
  refine pure_ (i := 15) (N := some 50) (v := ?_) (a' := ?_) (tf 16 53) rfl rfl (any_of HT_.out (by kernel_rfl)) (fun _ _ _ h => h) (Or.inl ⟨by rfl, ?_⟩) ?_ ?_
  rotate_left
  · intro w'
    go_simp
    with_reducible rfl
  rotate_left
  · simp only [Act.put, List.setIfInBounds_toArray, List.set_cons_zero, List.set_cons_succ, i64_w, i32_w]
    rfl
  refine pure_ (i := 16) (N := some 51) (v := ?_) (a' := ?_) (tf 17 52) rfl rfl (any_of HT_.out (by kernel_rfl)) (fun _ _ _ h => h) (Or.inl ⟨by rfl, ?_⟩) ?_ ?_
  rotate_left
  · intro w'
    go_simp
    with_reducible rfl
  rotate_left
  · simp only [Act.put, List.setIfInBounds_toArray, List.set_cons_zero, List.set_cons_succ, i64_w, i32_w]
    rfl
  refine pure_ (i := 17) (N := some 52) (v := ?_) (a' := ?_) (tf 18 51) rfl rfl (any_of HT_.out (by kernel_rfl)) (fun _ _ _ h => h) (Or.inl ⟨by rfl, ?_⟩) ?_ ?_
  rotate_left
  · intro w'
    go_simp
    with_reducible rfl
  rotate_left
  · simp only [Act.put, List.setIfInBounds_toArray, List.set_cons_zero, List.set_cons_succ, i64_w, i32_w]
    rfl
  refine pure_ (i := 18) (N := some 53) (v := ?_) (a' := ?_) (tf 19 50) rfl rfl (any_of HT_.out (by kernel_rfl)) (fun _ _ _ h => h) (Or.inl ⟨by rfl, ?_⟩) ?_ ?_
  rotate_left
  · intro w'
    go_simp
    with_reducible rfl
  rotate_left
  · simp only [Act.put, List.setIfInBounds_toArray, List.set_cons_zero, List.set_cons_succ, i64_w, i32_w]
    rfl
  refine pure_ (i := 20) (N := some 55) (v := ?_) (a' := ?_) #[true, true, true, true, true, true, true, true, true, true, true, true, true, true, true, true, true, true, true, false, true, false, false, false, false, false, false, false, false, false, false, false, false, false, false, false, false, false, false, false, false, false, false, false, false, false, false, false, false, false, false, false, false, false, false, false, false, false, false, false, false, false, false, false, false, false, false, false, false] rfl rfl (any_of HT_.out (by kernel_rfl)) (fun _ _ _ h => h) (Or.inl ⟨by rfl, ?_⟩) ?_ ?_
  rotate_left
  · intro w'
    go_simp
    with_reducible rfl
  rotate_left
  · simp only [Act.put, List.setIfInBounds_toArray, List.set_cons_zero, List.set_cons_succ, i64_w, i32_w]
    rfl
  refine take_ (i := 19) (N := some 54) (v := ?_) (a' := ?_) (tf 21 48) rfl rfl (take_ofW HT_.out HW_.out (by kernel_rfl)) (fun _ _ _ h => h) (Or.inl ⟨by rfl, ?_⟩) hHeld ?_ ?_
  rotate_left
  · intro w' s0
    refine Eq.trans (run_load_cell (t := 3) (by exact rfl) (by first | rfl | (go_simp; done) | (go_simp; rfl)) Tryz.isAgg3 (blk_cell0 (blk_below BKg11.out s0) 29 (.int .i64 x.f3) rfl)) ?_
    with_reducible rfl
  rotate_left
  · simp only [Act.put, List.setIfInBounds_toArray, List.set_cons_zero, List.set_cons_succ, i64_w, i32_w]
    rfl
  refine take_ (i := 21) (N := some 56) (v := ?_) (a' := ?_) (tf 22 47) rfl rfl (take_ofW HT_.out HW_.out (by kernel_rfl)) (fun _ _ _ h => h) (Or.inl ⟨by rfl, ?_⟩) hHeld ?_ ?_
  rotate_left
  · intro w' s0
    refine Eq.trans (run_load_cell (t := 3) (by exact rfl) (by first | rfl | (go_simp; done) | (go_simp; rfl)) Tryz.isAgg3 (blk_cell0 (blk_below BKg13.out s0) 29 (.int .i64 x.f3) rfl)) ?_
    with_reducible rfl
  rotate_left
  · simp only [Act.put, List.setIfInBounds_toArray, List.set_cons_zero, List.set_cons_succ, i64_w, i32_w]
    rfl
  refine pure_ (i := 22) (N := some 57) (v := ?_) (a' := ?_) (tf 23 46) rfl rfl (any_of HT_.out (by kernel_rfl)) (fun _ _ _ h => h) (Or.inl ⟨by rfl, ?_⟩) ?_ ?_
  rotate_left
  · intro w'
    go_simp
    with_reducible rfl
  rotate_left
  · simp only [Act.put, List.setIfInBounds_toArray, List.set_cons_zero, List.set_cons_succ, i64_w, i32_w]
    rfl
  refine pure_ (i := 23) (N := some 58) (v := ?_) (a' := ?_) (tf 24 45) rfl rfl (any_of HT_.out (by kernel_rfl)) (fun _ _ _ h => h) (Or.inl ⟨by rfl, ?_⟩) ?_ ?_
  rotate_left
  · intro w'
    go_simp
    with_reducible rfl
  rotate_left
  · simp only [Act.put, List.setIfInBounds_toArray, List.set_cons_zero, List.set_cons_succ, i64_w, i32_w]
    rfl
  refine pure_ (i := 24) (N := some 59) (v := ?_) (a' := ?_) (tf 25 44) rfl rfl (any_of HT_.out (by kernel_rfl)) (fun _ _ _ h => h) (Or.inl ⟨by rfl, ?_⟩) ?_ ?_
  rotate_left
  · intro w'
    go_simp
    with_reducible rfl
  rotate_left
  · simp only [Act.put, List.setIfInBounds_toArray, List.set_cons_zero, List.set_cons_succ, i64_w, i32_w]
    rfl
  refine pure_ (i := 25) (N := some 60) (v := ?_) (a' := ?_) (tf 26 43) rfl rfl (any_of HT_.out (by kernel_rfl)) (fun _ _ _ h => h) (Or.inl ⟨by rfl, ?_⟩) ?_ ?_
  rotate_left
  · intro w'
    go_simp
    with_reducible rfl
  rotate_left
  · simp only [Act.put, List.setIfInBounds_toArray, List.set_cons_zero, List.set_cons_succ, i64_w, i32_w]
    rfl
  refine pure_ (i := 27) (N := some 62) (v := ?_) (a' := ?_) #[true, true, true, true, true, true, true, true, true, true, true, true, true, true, true, true, true, true, true, true, true, true, true, true, true, true, false, true, false, false, false, false, false, false, false, false, false, false, false, false, false, false, false, false, false, false, false, false, false, false, false, false, false, false, false, false, false, false, false, false, false, false, false, false, false, false, false, false, false] rfl rfl (any_of HT_.out (by kernel_rfl)) (fun _ _ _ h => h) (Or.inl ⟨by rfl, ?_⟩) ?_ ?_
  rotate_left
  · intro w'
    go_simp
    with_reducible rfl
  rotate_left
  · simp only [Act.put, List.setIfInBounds_toArray, List.set_cons_zero, List.set_cons_succ, i64_w, i32_w]
    rfl
  refine take_ (i := 26) (N := some 61) (v := ?_) (a' := ?_) (tf 28 41) rfl rfl (take_ofW HT_.out HW_.out (by kernel_rfl)) (fun _ _ _ h => h) (Or.inl ⟨by rfl, ?_⟩) hHeld ?_ ?_
  rotate_left
  · intro w' s0
    refine Eq.trans (run_load_list (t := 37) (by exact rfl) (by first | rfl | (go_simp; done) | (go_simp; rfl)) Tryz.isAgg37 (cs := cl37 x.f2 Aa ca) Tryz.sizeOf37 (blk_part (blk_below BKg11.out s0) (cl39_part x Aa ca))) ?_
    with_reducible rfl
  rotate_left
  · simp only [Act.put, List.setIfInBounds_toArray, List.set_cons_zero, List.set_cons_succ, i64_w, i32_w]
    rfl
  refine take_ (i := 28) (N := some 63) (v := ?_) (a' := ?_) (tf 29 40) rfl rfl (take_ofW HT_.out HW_.out (by kernel_rfl)) (fun _ _ _ h => h) (Or.inl ⟨by rfl, ?_⟩) hHeld ?_ ?_
  rotate_left
  · intro w' s0
    refine Eq.trans (run_load_list (t := 37) (by exact rfl) (by first | rfl | (go_simp; done) | (go_simp; rfl)) Tryz.isAgg37 (cs := cl37 x.f2 Ab cb) Tryz.sizeOf37 (blk_part (blk_below BKg13.out s0) (cl39_part x Ab cb))) ?_
    with_reducible rfl
  rotate_left
  · simp only [Act.put, List.setIfInBounds_toArray, List.set_cons_zero, List.set_cons_succ, i64_w, i32_w]
    rfl
  refine one_ (i := 29) (N := some 64) (tf 30 39) rfl rfl (one_of HT_.out (by kernel_rfl)) (by decide) (fun K hK => ?_)
  refine goes_ Tryz.func19 (by kernel_rfl) rfl #[.agg ⟨cl37 x.f2 Aa ca⟩, .agg ⟨cl37 x.f2 Ab cb⟩] (by rfl) rfl rfl (by first | rfl | (simp only [List.map_toArray, List.map_cons, List.map_nil]; done) | (simp only [List.map_toArray, List.map_cons, List.map_nil]; rfl) | simp) ?_
  refine (K19.out _ hHeld).mono ?_
  rintro e wk ⟨rfl, hb⟩
  refine ⟨_, rfl, ?_⟩
  refine hK.out _ _ ((below_step hHeld hb)) (fun hHeld => ?_)
  clear hK K
  refine norm_ (a' := ?_) ?_ ?_
  rotate_left
  · show Act.put _ (some 64) _ = _
    simp only [Act.put, List.setIfInBounds_toArray, List.set_cons_zero, List.set_cons_succ, i64_w, i32_w]
    rfl
  refine pure_ (i := 30) (N := some 65) (v := ?_) (a' := ?_) (tf 31 38) rfl rfl (any_of HT_.out (by kernel_rfl)) (fun _ _ _ h => h) (Or.inl ⟨by rfl, ?_⟩) ?_ ?_
  rotate_left
  · intro w'
    go_simp
    with_reducible rfl
  rotate_left
  · simp only [Act.put, List.setIfInBounds_toArray, List.set_cons_zero, List.set_cons_succ, i64_w, i32_w]
    rfl
  refine pure_ (i := 31) (N := some 66) (v := ?_) (a' := ?_) (tf 32 37) rfl rfl (any_of HT_.out (by kernel_rfl)) (fun _ _ _ h => h) (Or.inl ⟨by rfl, ?_⟩) ?_ ?_
  rotate_left
  · intro w'
    go_simp
    with_reducible rfl
  rotate_left
  · simp only [Act.put, List.setIfInBounds_toArray, List.set_cons_zero, List.set_cons_succ, i64_w, i32_w]
    rfl
  refine take_ (i := 32) (N := some 67) (v := ?_) (a' := ?_) (tf 33 36) rfl rfl (take_ofW HT_.out HW_.out (by kernel_rfl)) (fun _ _ _ h => h) (Or.inl ⟨by rfl, ?_⟩) hHeld ?_ ?_
  rotate_left
  · intro w' s0
    refine Eq.trans (run_load_list (t := 39) (by exact rfl) (by first | rfl | (go_simp; done) | (go_simp; rfl)) Tryz.isAgg39 (cs := cl39 x Aa ca) Tryz.sizeOf39 (blk_cells (blk_below BKg11.out s0))) ?_
    with_reducible rfl
  rotate_left
  · simp only [Act.put, List.setIfInBounds_toArray, List.set_cons_zero, List.set_cons_succ, i64_w, i32_w]
    rfl
  refine take_ (i := 34) (N := some 69) (v := ?_) (a' := ?_) #[true, true, true, true, true, true, true, true, true, true, true, true, true, true, true, true, true, true, true, true, true, true, true, true, true, true, true, true, true, true, true, true, true, false, true, false, false, false, false, false, false, false, false, false, false, false, false, false, false, false, false, false, false, false, false, false, false, false, false, false, false, false, false, false, false, false, false, false, false] rfl rfl (take_ofW HT_.out HW_.out (by kernel_rfl)) (fun _ _ _ h => h) (Or.inl ⟨by rfl, ?_⟩) hHeld ?_ ?_
  rotate_left
  · intro w' s0
    refine Eq.trans (run_load_list (t := 39) (by exact rfl) (by first | rfl | (go_simp; done) | (go_simp; rfl)) Tryz.isAgg39 (cs := cl39 x Aa ca) Tryz.sizeOf39 (blk_cells (blk_below BKg11.out s0))) ?_
    with_reducible rfl
  rotate_left
  · simp only [Act.put, List.setIfInBounds_toArray, List.set_cons_zero, List.set_cons_succ, i64_w, i32_w]
    rfl
  refine one_ (i := 33) (N := some 68) (tf 35 34) rfl rfl (one_of HT_.out (by kernel_rfl)) (by decide) (fun K hK => ?_)
  refine goes_ Tryz.func26 (by kernel_rfl) rfl #[.agg ⟨cl39 x Aa ca⟩] (by rfl) rfl rfl (by first | rfl | (simp only [List.map_toArray, List.map_cons, List.map_nil]; done) | (simp only [List.map_toArray, List.map_cons, List.map_nil]; rfl) | simp) ?_
  refine (K26.out _ hHeld).mono ?_
  rintro e wk ⟨rfl, hb⟩
  refine ⟨_, rfl, ?_⟩
  refine hK.out _ _ ((below_step hHeld hb)) (fun hHeld => ?_)
  clear hK K
  refine norm_ (a' := ?_) ?_ ?_
  rotate_left
  · show Act.put _ (some 68) _ = _
    simp only [Act.put, List.setIfInBounds_toArray, List.set_cons_zero, List.set_cons_succ, i64_w, i32_w]
    rfl
  refine one_ (i := 35) (N := some 70) (tf 36 33) rfl rfl (one_of HT_.out (by kernel_rfl)) (by decide) (fun K hK => ?_)
  refine goes_ Tryz.func28 (by kernel_rfl) rfl #[.agg ⟨cl39 x Aa ca⟩] (by rfl) rfl rfl (by first | rfl | (simp only [List.map_toArray, List.map_cons, List.map_nil]; done) | (simp only [List.map_toArray, List.map_cons, List.map_nil]; rfl) | simp) ?_
  refine (K28.out _ hHeld).mono ?_
  rintro e wk ⟨rfl, hb⟩
  refine ⟨_, rfl, ?_⟩
  refine hK.out _ _ ((below_step hHeld hb)) (fun hHeld => ?_)
  clear hK K
  refine norm_ (a' := ?_) ?_ ?_
  rotate_left
  · show Act.put _ (some 70) _ = _
    simp only [Act.put, List.setIfInBounds_toArray, List.set_cons_zero, List.set_cons_succ, i64_w, i32_w]
    rfl
  refine pure_ (i := 36) (N := some 71) (v := ?_) (a' := ?_) (tf 37 32) rfl rfl (any_of HT_.out (by kernel_rfl)) (fun _ _ _ h => h) (Or.inl ⟨by rfl, ?_⟩) ?_ ?_
  rotate_left
  · intro w'
    go_simp
    with_reducible rfl
  rotate_left
  · simp only [Act.put, List.setIfInBounds_toArray, List.set_cons_zero, List.set_cons_succ, i64_w, i32_w]
    rfl
  refine pure_ (i := 37) (N := some 72) (v := ?_) (a' := ?_) (tf 38 31) rfl rfl (any_of HT_.out (by kernel_rfl)) (fun _ _ _ h => h) (Or.inl ⟨by rfl, ?_⟩) ?_ ?_
  rotate_left
  · intro w'
    go_simp
    with_reducible rfl
  rotate_left
  · simp only [Act.put, List.setIfInBounds_toArray, List.set_cons_zero, List.set_cons_succ, i64_w, i32_w]
    rfl
  refine pure_ (i := 38) (N := some 73) (v := ?_) (a' := ?_) (tf 39 30) rfl rfl (any_of HT_.out (by kernel_rfl)) (fun _ _ _ h => h) (Or.inl ⟨by rfl, ?_⟩) ?_ ?_
  rotate_left
  · intro w'
    go_simp
    with_reducible rfl
  rotate_left
  · simp only [Act.put, List.setIfInBounds_toArray, List.set_cons_zero, List.set_cons_succ, i64_w, i32_w]
    rfl
  refine pure_ (i := 40) (N := some 75) (v := ?_) (a' := ?_) #[true, true, true, true, true, true, true, true, true, true, true, true, true, true, true, true, true, true, true, true, true, true, true, true, true, true, true, true, true, true, true, true, true, true, true, true, true, true, true, false, true, false, false, false, false, false, false, false, false, false, false, false, false, false, false, false, false, false, false, false, false, false, false, false, false, false, false, false, false] rfl rfl (any_of HT_.out (by kernel_rfl)) (fun _ _ _ h => h) (Or.inl ⟨by rfl, ?_⟩) ?_ ?_
  rotate_left
  · intro w'
    go_simp
    with_reducible rfl
  rotate_left
  · simp only [Act.put, List.setIfInBounds_toArray, List.set_cons_zero, List.set_cons_succ, i64_w, i32_w]
    rfl
  refine pure_ (i := 43) (N := some 78) (v := ?_) (a' := ?_) #[true, true, true, true, true, true, true, true, true, true, true, true, true, true, true, true, true, true, true, true, true, true, true, true, true, true, true, true, true, true, true, true, true, true, true, true, true, true, true, false, true, false, false, true, false, false, false, false, false, false, false, false, false, false, false, false, false, false, false, false, false, false, false, false, false, false, false, false, false] rfl rfl (any_of HT_.out (by kernel_rfl)) (fun _ _ _ h => h) (Or.inl ⟨by rfl, ?_⟩) ?_ ?_
  rotate_left
  · intro w'
    go_simp
    with_reducible rfl
  rotate_left
  · simp only [Act.put, List.setIfInBounds_toArray, List.set_cons_zero, List.set_cons_succ, i64_w, i32_w]
    rfl
  refine take_ (i := 39) (N := some 74) (v := ?_) (a' := ?_) #[true, true, true, true, true, true, true, true, true, true, true, true, true, true, true, true, true, true, true, true, true, true, true, true, true, true, true, true, true, true, true, true, true, true, true, true, true, true, true, true, true, false, false, true, false, false, false, false, false, false, false, false, false, false, false, false, false, false, false, false, false, false, false, false, false, false, false, false, false] rfl rfl (take_ofW HT_.out HW_.out (by kernel_rfl)) (fun _ _ _ h => h) (Or.inl ⟨by rfl, ?_⟩) hHeld ?_ ?_
  rotate_left
  · intro w' s0
    refine Eq.trans (run_load_list (t := 26) (by exact rfl) (by first | rfl | (go_simp; done) | (go_simp; rfl)) Tryz.isAgg26 (cs := [.slice A0 n0 c0, .slice A1 n1 c1, .slice A2 n2 c2]) Tryz.sizeOf26 (blk_cells (blk_below BKg5.out s0))) ?_
    with_reducible rfl
  rotate_left
  · simp only [Act.put, List.setIfInBounds_toArray, List.set_cons_zero, List.set_cons_succ, i64_w, i32_w]
    rfl
  refine take_ (i := 42) (N := some 77) (v := ?_) (a' := ?_) #[true, true, true, true, true, true, true, true, true, true, true, true, true, true, true, true, true, true, true, true, true, true, true, true, true, true, true, true, true, true, true, true, true, true, true, true, true, true, true, true, true, false, true, true, false, false, false, false, false, false, false, false, false, false, false, false, false, false, false, false, false, false, false, false, false, false, false, false, false] rfl rfl (take_ofW HT_.out HW_.out (by kernel_rfl)) (fun _ _ _ h => h) (Or.inl ⟨by rfl, ?_⟩) hHeld ?_ ?_
  rotate_left
  · intro w' s0
    refine Eq.trans (run_load_list (t := 26) (by exact rfl) (by first | rfl | (go_simp; done) | (go_simp; rfl)) Tryz.isAgg26 (cs := [.slice A0 n0 c0, .slice A1 n1 c1, .slice A2 n2 c2]) Tryz.sizeOf26 (blk_cells (blk_below BKg5.out s0))) ?_
    with_reducible rfl
  rotate_left
  · simp only [Act.put, List.setIfInBounds_toArray, List.set_cons_zero, List.set_cons_succ, i64_w, i32_w]
    rfl
  refine one_ (i := 41) (N := some 76) (tf 44 25) rfl rfl (one_of HT_.out (by kernel_rfl)) (by decide) (fun K hK => ?_)
  refine goes_ Tryz.func29 (by kernel_rfl) rfl #[.agg #[.slice A0 n0 c0, .slice A1 n1 c1, .slice A2 n2 c2], .string name] (by rfl) rfl rfl (by first | rfl | (simp only [List.map_toArray, List.map_cons, List.map_nil]; done) | (simp only [List.map_toArray, List.map_cons, List.map_nil]; rfl) | simp) ?_
  refine (L29.out _ hHeld).mono ?_
  rintro e wk ⟨rfl, hb⟩
  refine ⟨_, rfl, ?_⟩
  refine hK.out _ _ ((below_step hHeld hb)) (fun hHeld => ?_)
  clear hK K
  refine norm_ (a' := ?_) ?_ ?_
  rotate_left
  · show Act.put _ (some 76) _ = _
    simp only [Act.put, List.setIfInBounds_toArray, List.set_cons_zero, List.set_cons_succ, i64_w, i32_w]
    rfl
  refine one_ (i := 44) (N := some 79) (tf 45 24) rfl rfl (one_of HT_.out (by kernel_rfl)) (by decide) (fun K hK => ?_)
  refine goes_ Tryz.func30 (by kernel_rfl) rfl #[.agg #[.slice A0 n0 c0, .slice A1 n1 c1, .slice A2 n2 c2], .string name] (by rfl) rfl rfl (by first | rfl | (simp only [List.map_toArray, List.map_cons, List.map_nil]; done) | (simp only [List.map_toArray, List.map_cons, List.map_nil]; rfl) | simp) ?_
  refine (L30.out _ hHeld).mono ?_
  rintro e wk ⟨rfl, hb⟩
  refine ⟨_, rfl, ?_⟩
  refine hK.out _ _ ((below_step hHeld hb)) (fun hHeld => ?_)
  clear hK K
  refine norm_ (a' := ?_) ?_ ?_
  rotate_left
  · show Act.put _ (some 79) _ = _
    simp only [Act.put, List.setIfInBounds_toArray, List.set_cons_zero, List.set_cons_succ, i64_w, i32_w]
    rfl
  refine pure_ (i := 45) (N := some 80) (v := ?_) (a' := ?_) (tf 46 23) rfl rfl (any_of HT_.out (by kernel_rfl)) (fun _ _ _ h => h) (Or.inl ⟨by rfl, ?_⟩) ?_ ?_
  rotate_left
  · intro w'
    go_simp
    with_reducible rfl
  rotate_left
  · simp only [Act.put, List.setIfInBounds_toArray, List.set_cons_zero, List.set_cons_succ, i64_w, i32_w]
    rfl
  refine pure_ (i := 46) (N := some 81) (v := ?_) (a' := ?_) (tf 47 22) rfl rfl (any_of HT_.out (by kernel_rfl)) (fun _ _ _ h => h) (Or.inl ⟨by rfl, ?_⟩) ?_ ?_
  rotate_left
  · intro w'
    go_simp
    with_reducible rfl
  rotate_left
  · simp only [Act.put, List.setIfInBounds_toArray, List.set_cons_zero, List.set_cons_succ, i64_w, i32_w]
    rfl
  refine pure_ (i := 47) (N := some 82) (v := ?_) (a' := ?_) (tf 48 21) rfl rfl (any_of HT_.out (by kernel_rfl)) (fun _ _ _ h => h) (Or.inl ⟨by rfl, ?_⟩) ?_ ?_
  rotate_left
  · intro w'
    go_simp
    with_reducible rfl
  rotate_left
  · simp only [Act.put, List.setIfInBounds_toArray, List.set_cons_zero, List.set_cons_succ, i64_w, i32_w]
    rfl
  refine pure_ (i := 49) (N := some 84) (v := ?_) (a' := ?_) #[true, true, true, true, true, true, true, true, true, true, true, true, true, true, true, true, true, true, true, true, true, true, true, true, true, true, true, true, true, true, true, true, true, true, true, true, true, true, true, true, true, true, true, true, true, true, true, true, false, true, false, false, false, false, false, false, false, false, false, false, false, false, false, false, false, false, false, false, false] rfl rfl (any_of HT_.out (by kernel_rfl)) (fun _ _ _ h => h) (Or.inl ⟨by rfl, ?_⟩) ?_ ?_
  rotate_left
  · intro w'
    go_simp
    with_reducible rfl
  rotate_left
  · simp only [Act.put, List.setIfInBounds_toArray, List.set_cons_zero, List.set_cons_succ, i64_w, i32_w]
    rfl
  refine pure_ (i := 52) (N := some 87) (v := ?_) (a' := ?_) #[true, true, true, true, true, true, true, true, true, true, true, true, true, true, true, true, true, true, true, true, true, true, true, true, true, true, true, true, true, true, true, true, true, true, true, true, true, true, true, true, true, true, true, true, true, true, true, true, false, true, false, false, true, false, false, false, false, false, false, false, false, false, false, false, false, false, false, false, false] rfl rfl (any_of HT_.out (by kernel_rfl)) (fun _ _ _ h => h) (Or.inl ⟨by rfl, ?_⟩) ?_ ?_
  rotate_left
  · intro w'
    go_simp
    with_reducible rfl
  rotate_left
  · simp only [Act.put, List.setIfInBounds_toArray, List.set_cons_zero, List.set_cons_succ, i64_w, i32_w]
    rfl
  refine take_ (i := 48) (N := some 83) (v := ?_) (a' := ?_) #[true, true, true, true, true, true, true, true, true, true, true, true, true, true, true, true, true, true, true, true, true, true, true, true, true, true, true, true, true, true, true, true, true, true, true, true, true, true, true, true, true, true, true, true, true, true, true, true, true, true, false, false, true, false, false, false, false, false, false, false, false, false, false, false, false, false, false, false, false] rfl rfl (take_ofW HT_.out HW_.out (by kernel_rfl)) (fun _ _ _ h => h) (Or.inl ⟨by rfl, ?_⟩) hHeld ?_ ?_
  rotate_left
  · intro w' s0
    refine Eq.trans (run_load_list (t := 26) (by exact rfl) (by first | rfl | (go_simp; done) | (go_simp; rfl)) Tryz.isAgg26 (cs := [.slice A0 n0 c0, .slice A1 n1 c1, .slice A2 n2 c2]) Tryz.sizeOf26 (blk_cells (blk_below BKg5.out s0))) ?_
    with_reducible rfl
  rotate_left
  · simp only [Act.put, List.setIfInBounds_toArray, List.set_cons_zero, List.set_cons_succ, i64_w, i32_w]
    rfl
  refine take_ (i := 51) (N := some 86) (v := ?_) (a' := ?_) #[true, true, true, true, true, true, true, true, true, true, true, true, true, true, true, true, true, true, true, true, true, true, true, true, true, true, true, true, true, true, true, true, true, true, true, true, true, true, true, true, true, true, true, true, true, true, true, true, true, true, false, true, true, false, false, false, false, false, false, false, false, false, false, false, false, false, false, false, false] rfl rfl (take_ofW HT_.out HW_.out (by kernel_rfl)) (fun _ _ _ h => h) (Or.inl ⟨by rfl, ?_⟩) hHeld ?_ ?_
  rotate_left
  · intro w' s0
    refine Eq.trans (run_load_list (t := 26) (by exact rfl) (by first | rfl | (go_simp; done) | (go_simp; rfl)) Tryz.isAgg26 (cs := [.slice A0 n0 c0, .slice A1 n1 c1, .slice A2 n2 c2]) Tryz.sizeOf26 (blk_cells (blk_below BKg5.out s0))) ?_
    with_reducible rfl
  rotate_left
  · simp only [Act.put, List.setIfInBounds_toArray, List.set_cons_zero, List.set_cons_succ, i64_w, i32_w]
    rfl
  refine one_ (i := 50) (N := some 85) (tf 53 16) rfl rfl (one_of HT_.out (by kernel_rfl)) (by decide) (fun K hK => ?_)
  refine goes_ Tryz.func31 (by kernel_rfl) rfl #[.agg #[.slice A0 n0 c0, .slice A1 n1 c1, .slice A2 n2 c2], .string name] (by rfl) rfl rfl (by first | rfl | (simp only [List.map_toArray, List.map_cons, List.map_nil]; done) | (simp only [List.map_toArray, List.map_cons, List.map_nil]; rfl) | simp) ?_
  refine (L31.out _ hHeld).mono ?_
  rintro e wk ⟨rfl, hb⟩
  refine ⟨_, rfl, ?_⟩
  refine hK.out _ _ ((below_step hHeld hb)) (fun hHeld => ?_)
  clear hK K
  refine norm_ (a' := ?_) ?_ ?_
  rotate_left
  · show Act.put _ (some 85) _ = _
    simp only [Act.put, List.setIfInBounds_toArray, List.set_cons_zero, List.set_cons_succ, i64_w, i32_w]
    rfl
  refine one_ (i := 53) (N := some 88) (tf 54 15) rfl rfl (one_of HT_.out (by kernel_rfl)) (by decide) (fun K hK => ?_)
  refine goes_ Tryz.func32 (by kernel_rfl) rfl #[.agg #[.slice A0 n0 c0, .slice A1 n1 c1, .slice A2 n2 c2], .string name] (by rfl) rfl rfl (by first | rfl | (simp only [List.map_toArray, List.map_cons, List.map_nil]; done) | (simp only [List.map_toArray, List.map_cons, List.map_nil]; rfl) | simp) ?_
  refine (L32.out _ hHeld).mono ?_
  rintro e wk ⟨rfl, hb⟩
  refine ⟨_, rfl, ?_⟩
  refine hK.out _ _ ((below_step hHeld hb)) (fun hHeld => ?_)
  clear hK K
  refine norm_ (a' := ?_) ?_ ?_
  rotate_left
  · show Act.put _ (some 88) _ = _
    simp only [Act.put, List.setIfInBounds_toArray, List.set_cons_zero, List.set_cons_succ, i64_w, i32_w]
    rfl
  refine pure_ (i := 54) (N := some 89) (v := ?_) (a' := ?_) (tf 55 14) rfl rfl (any_of HT_.out (by kernel_rfl)) (fun _ _ _ h => h) (Or.inl ⟨by rfl, ?_⟩) ?_ ?_
  rotate_left
  · intro w'
    go_simp
    with_reducible rfl
  rotate_left
  · simp only [Act.put, List.setIfInBounds_toArray, List.set_cons_zero, List.set_cons_succ, i64_w, i32_w]
    rfl
  refine pure_ (i := 55) (N := some 90) (v := ?_) (a' := ?_) (tf 56 13) rfl rfl (any_of HT_.out (by kernel_rfl)) (fun _ _ _ h => h) (Or.inl ⟨by rfl, ?_⟩) ?_ ?_
  rotate_left
  · intro w'
    go_simp
    with_reducible rfl
  rotate_left
  · simp only [Act.put, List.setIfInBounds_toArray, List.set_cons_zero, List.set_cons_succ, i64_w, i32_w]
    rfl
  refine pure_ (i := 56) (N := some 91) (v := ?_) (a' := ?_) (tf 57 12) rfl rfl (any_of HT_.out (by kernel_rfl)) (fun _ _ _ h => h) (Or.inl ⟨by rfl, ?_⟩) ?_ ?_
  rotate_left
  · intro w'
    go_simp
    with_reducible rfl
  rotate_left
  · simp only [Act.put, List.setIfInBounds_toArray, List.set_cons_zero, List.set_cons_succ, i64_w, i32_w]
    rfl
  refine pure_ (i := 58) (N := some 93) (v := ?_) (a' := ?_) #[true, true, true, true, true, true, true, true, true, true, true, true, true, true, true, true, true, true, true, true, true, true, true, true, true, true, true, true, true, true, true, true, true, true, true, true, true, true, true, true, true, true, true, true, true, true, true, true, true, true, true, true, true, true, true, true, true, false, true, false, false, false, false, false, false, false, false, false, false] rfl rfl (any_of HT_.out (by kernel_rfl)) (fun _ _ _ h => h) (Or.inl ⟨by rfl, ?_⟩) ?_ ?_
  rotate_left
  · intro w'
    go_simp
    with_reducible rfl
  rotate_left
  · simp only [Act.put, List.setIfInBounds_toArray, List.set_cons_zero, List.set_cons_succ, i64_w, i32_w]
    rfl
  refine pure_ (i := 61) (N := some 96) (v := ?_) (a' := ?_) #[true, true, true, true, true, true, true, true, true, true, true, true, true, true, true, true, true, true, true, true, true, true, true, true, true, true, true, true, true, true, true, true, true, true, true, true, true, true, true, true, true, true, true, true, true, true, true, true, true, true, true, true, true, true, true, true, true, false, true, false, false, true, false, false, false, false, false, false, false] rfl rfl (any_of HT_.out (by kernel_rfl)) (fun _ _ _ h => h) (Or.inl ⟨by rfl, ?_⟩) ?_ ?_
  rotate_left
  · intro w'
    go_simp
    with_reducible rfl
  rotate_left
  · simp only [Act.put, List.setIfInBounds_toArray, List.set_cons_zero, List.set_cons_succ, i64_w, i32_w]
    rfl
  refine take_ (i := 57) (N := some 92) (v := ?_) (a' := ?_) #[true, true, true, true, true, true, true, true, true, true, true, true, true, true, true, true, true, true, true, true, true, true, true, true, true, true, true, true, true, true, true, true, true, true, true, true, true, true, true, true, true, true, true, true, true, true, true, true, true, true, true, true, true, true, true, true, true, true, true, false, false, true, false, false, false, false, false, false, false] rfl rfl (take_ofW HT_.out HW_.out (by kernel_rfl)) (fun _ _ _ h => h) (Or.inl ⟨by rfl, ?_⟩) hHeld ?_ ?_
  rotate_left
  · intro w' s0
    refine Eq.trans (run_load_list (t := 26) (by exact rfl) (by first | rfl | (go_simp; done) | (go_simp; rfl)) Tryz.isAgg26 (cs := [.slice A0 n0 c0, .slice A1 n1 c1, .slice A2 n2 c2]) Tryz.sizeOf26 (blk_cells (blk_below BKg5.out s0))) ?_
    with_reducible rfl
  rotate_left
  · simp only [Act.put, List.setIfInBounds_toArray, List.set_cons_zero, List.set_cons_succ, i64_w, i32_w]
    rfl
  refine take_ (i := 60) (N := some 95) (v := ?_) (a' := ?_) #[true, true, true, true, true, true, true, true, true, true, true, true, true, true, true, true, true, true, true, true, true, true, true, true, true, true, true, true, true, true, true, true, true, true, true, true, true, true, true, true, true, true, true, true, true, true, true, true, true, true, true, true, true, true, true, true, true, true, true, false, true, true, false, false, false, false, false, false, false] rfl rfl (take_ofW HT_.out HW_.out (by kernel_rfl)) (fun _ _ _ h => h) (Or.inl ⟨by rfl, ?_⟩) hHeld ?_ ?_
  rotate_left
  · intro w' s0
    refine Eq.trans (run_load_list (t := 26) (by exact rfl) (by first | rfl | (go_simp; done) | (go_simp; rfl)) Tryz.isAgg26 (cs := [.slice A0 n0 c0, .slice A1 n1 c1, .slice A2 n2 c2]) Tryz.sizeOf26 (blk_cells (blk_below BKg5.out s0))) ?_
    with_reducible rfl
  rotate_left
  · simp only [Act.put, List.setIfInBounds_toArray, List.set_cons_zero, List.set_cons_succ, i64_w, i32_w]
    rfl
  refine one_ (i := 59) (N := some 94) (tf 62 7) rfl rfl (one_of HT_.out (by kernel_rfl)) (by decide) (fun K hK => ?_)
  refine goes_ Tryz.func33 (by kernel_rfl) rfl #[.agg #[.slice A0 n0 c0, .slice A1 n1 c1, .slice A2 n2 c2], .string name] (by rfl) rfl rfl (by first | rfl | (simp only [List.map_toArray, List.map_cons, List.map_nil]; done) | (simp only [List.map_toArray, List.map_cons, List.map_nil]; rfl) | simp) ?_
  refine (L33.out _ hHeld).mono ?_
  rintro e wk ⟨rfl, hb⟩
  refine ⟨_, rfl, ?_⟩
  refine hK.out _ _ ((below_step hHeld hb)) (fun hHeld => ?_)
  clear hK K
  refine norm_ (a' := ?_) ?_ ?_
  rotate_left
  · show Act.put _ (some 94) _ = _
    simp only [Act.put, List.setIfInBounds_toArray, List.set_cons_zero, List.set_cons_succ, i64_w, i32_w]
    rfl
  refine one_ (i := 62) (N := some 97) (tf 63 6) rfl rfl (one_of HT_.out (by kernel_rfl)) (by decide) (fun K hK => ?_)
  refine goes_ Tryz.func34 (by kernel_rfl) rfl #[.agg #[.slice A0 n0 c0, .slice A1 n1 c1, .slice A2 n2 c2], .string name] (by rfl) rfl rfl (by first | rfl | (simp only [List.map_toArray, List.map_cons, List.map_nil]; done) | (simp only [List.map_toArray, List.map_cons, List.map_nil]; rfl) | simp) ?_
  refine (L34.out _ hHeld).mono ?_
  rintro e wk ⟨rfl, hb⟩
  refine ⟨_, rfl, ?_⟩
  refine hK.out _ _ ((below_step hHeld hb)) (fun hHeld => ?_)
  clear hK K
  refine norm_ (a' := ?_) ?_ ?_
  rotate_left
  · show Act.put _ (some 97) _ = _
    simp only [Act.put, List.setIfInBounds_toArray, List.set_cons_zero, List.set_cons_succ, i64_w, i32_w]
    rfl
  refine pure_ (i := 63) (N := some 98) (v := ?_) (a' := ?_) (tf 64 5) rfl rfl (any_of HT_.out (by kernel_rfl)) (fun _ _ _ h => h) (Or.inl ⟨by rfl, ?_⟩) ?_ ?_
  rotate_left
  · intro w'
    go_simp
    with_reducible rfl
  rotate_left
  · simp only [Act.put, List.setIfInBounds_toArray, List.set_cons_zero, List.set_cons_succ, i64_w, i32_w]
    rfl
  refine pure_ (i := 64) (N := some 99) (v := ?_) (a' := ?_) (tf 65 4) rfl rfl (any_of HT_.out (by kernel_rfl)) (fun _ _ _ h => h) (Or.inl ⟨by rfl, ?_⟩) ?_ ?_
  rotate_left
  · intro w'
    go_simp
    with_reducible rfl
  rotate_left
  · simp only [Act.put, List.setIfInBounds_toArray, List.set_cons_zero, List.set_cons_succ, i64_w, i32_w]
    rfl
  refine pure_ (i := 65) (N := some 100) (v := ?_) (a' := ?_) (tf 66 3) rfl rfl (any_of HT_.out (by kernel_rfl)) (fun _ _ _ h => h) (Or.inl ⟨by rfl, ?_⟩) ?_ ?_
  rotate_left
  · intro w'
    go_simp
    with_reducible rfl
  rotate_left
  · simp only [Act.put, List.setIfInBounds_toArray, List.set_cons_zero, List.set_cons_succ, i64_w, i32_w]
    rfl
  refine one_ (i := 66) (N := some 101) (tf 67 2) rfl rfl (one_of HT_.out (by kernel_rfl)) (by decide) (fun K hK => ?_)
  refine goes_ Tryz.func12 (by kernel_rfl) rfl #[] (by rfl) rfl rfl (by first | rfl | (simp only [List.map_toArray, List.map_cons, List.map_nil]; done) | (simp only [List.map_toArray, List.map_cons, List.map_nil]; rfl) | simp) ?_
  refine (L12.out _ hHeld).mono ?_
  rintro e wk ⟨rfl, hb⟩
  refine ⟨_, rfl, ?_⟩
  refine hK.out _ _ ((below_step hHeld hb)) (fun hHeld => ?_)
  clear hK K
  refine norm_ (a' := ?_) ?_ ?_
  rotate_left
  · show Act.put _ (some 101) _ = _
    simp only [Act.put, List.setIfInBounds_toArray, List.set_cons_zero, List.set_cons_succ, i64_w, i32_w]
    rfl
  refine pure_ (i := 67) (N := some 102) (v := ?_) (a' := ?_) (tf 68 1) rfl rfl (any_of HT_.out (by kernel_rfl)) (fun _ _ _ h => h) (Or.inl ⟨by rfl, ?_⟩) ?_ ?_
  rotate_left
  · intro w'
    go_simp
    with_reducible rfl
  rotate_left
  · simp only [Act.put, List.setIfInBounds_toArray, List.set_cons_zero, List.set_cons_succ, i64_w, i32_w]
    rfl
  refine pure_ (i := 68) (N := some 10) (v := ?_) (a' := ?_) (tf 69 0) rfl rfl (any_of HT_.out (by kernel_rfl)) (fun _ _ _ h => h) (Or.inl ⟨by rfl, ?_⟩) ?_ ?_
  rotate_left
  · intro w'
    go_simp
    with_reducible rfl
  rotate_left
  · simp only [Act.put, List.setIfInBounds_toArray, List.set_cons_zero, List.set_cons_succ, i64_w, i32_w]
    rfl
  refine done_ (done_of HT_.out (by kernel_rfl)) ?_
  try go_wp2
  go_ret
  exact ⟨rfl, below_step HB.out hHeld⟩
end Go.Proofs.YtnafcjaddnkioaaGreatDoor.PLooks
end
section
set_option linter.unusedVariables false
set_option linter.unusedSimpArgs false
namespace Go.Proofs.YtnafcjaddnkioaaGreatDoor.PLooks
open Go.Qe Go.RowKit Go.Shelf Go.Proofs.YtnafcjaddnkioaaGreatDoorW.PrintWords Go.Proofs.YtnafcjaddnkioaaGreatDoorW.PrintLast Go.Proofs.YtnafcjaddnkioaaGreatDoorW.PrintMore Go.Proofs.YtnafcjaddnkioaaGreatDoor.Opn
theorem quiet_below {w w' : World} (q : Quiet w w') : Below w.heap.size w w' := ⟨q.os, q.tape, q.output, q.size, q.heap⟩
theorem sure12 {w : World} {m : Int} (hm : w.cell? ⟨2, 0, none⟩ = some (.int .i64 m)) : Sure w 12 #[] (.bool true) := fun w' hb => by
  have hlt : 2 < w.heap.size := by
    simp only [World.cell?] at hm
    cases h : w.heap[2]? with
    | none => simp [h] at hm
    | some o => exact (Array.getElem?_eq_some_iff.1 h).1
  have hm' : w'.cell? ⟨2, 0, none⟩ = some (.int .i64 m) := by
    rw [hb.cell (p := ⟨2, 0, none⟩) hlt]; exact hm
  exact (Tryz.alive_ran w' m hm').mono fun e w'' ⟨h1, h2⟩ => ⟨h1, quiet_below h2⟩
theorem getR_small {l : List S65} {sheet col row : Int} {k : Nat} (hk : 1 ≤ k) (h : sumL m65 l ≤ k) : n35 ((getR l sheet col row).getD (zc col row)).f2.f2 ≤ k := by
  cases hg : getR l sheet col row with
  | none =>
    have e := n35_kids (zc col row).f2.f2
    have e2 : n35L (zc col row).f2.f2.f6 = 0 := by simp [zc, z37, z35, n35L]
    simp only [Option.getD_none]
    omega
  | some x =>
    simp only [Option.getD_some]
    unfold getR at hg
    split at hg
    · obtain ⟨s, hs, hx⟩ := Option.bind_eq_some_iff.1 hg
      have h1 := sumL_mem m65 (List.mem_of_getElem? hs)
      have h2 := sumL_mem c39 (List.mem_of_find?_eq_some hx)
      have e : m65 s = sumL c39 s.f1 + 1 := rfl
      have e3 : c39 x = n35 x.f2.f2 := rfl
      omega
    · cases hg
theorem looks_calls (w : World) (b : Bk) (A0 : Option Addr) (c0 : Nat) (A1 : Option Addr) (c1 : Nat) (A2 : Option Addr) (c2 : Nat) (name : ByteArray) (sheet col row : Int) (h : BkC w A0 c0 b.s A1 c1 b.n A2 c2 b.y) (hb : b.size ≤ 1099511627776)
    (m : Int) (hm : w.cell? ⟨2, 0, none⟩ = some (.int .i64 m)) :
    Calls Tryz.prog 7 #[.agg #[.slice A0 b.s.length c0, .slice A1 b.n.length c1, .slice A2 b.y.length c2], .string name, .int .i64 sheet, .int .i64 col, .int .i64 row] w fun e w' => e = .returned (.bool true) ∧ Below w.heap.size w w' := by
  unfold Bk.size at hb
  have hl0 := sumL_len m65 m65_pos b.s
  have hl1 := sumL_len m67 m67_pos b.n
  have hl2 := sumL_len (fun s : ByteArray => s.size + 1) (fun s => Nat.le_add_left _ _) b.y
  obtain ⟨r, h9⟩ := sure9 h (by omega) (by omega)
  have h12 := sure12 hm
  cases r with
  | false => exact looks_big w A0 _ c0 A1 _ c1 A2 _ c2 name sheet col row h9 h12
  | true =>
    have hmax : ∀ s ∈ b.s, s.f1.length ≤ 1099511627776 := fun s hs => by
      have h1 := sumL_mem m65 hs
      have h2 := sumL_len c39 c39_pos s.f1
      have e : m65 s = sumL c39 s.f1 + 1 := rfl
      omega
    have h24 : GetSure w 24 (.agg #[.slice A0 b.s.length c0, .slice A1 b.n.length c1, .slice A2 b.y.length c2]) sheet col row ((getR b.s sheet col row).getD (zc col row)) (getR b.s sheet col row).isSome :=
      .of fun w' hw => callsIn_wide.1 (get_in Fence.wide 4 trivial trivial trivial rfl (Nat.le_refl _) A0 c0 b.s A1 _ c1 A2 _ c2 sheet col row w' (Kd.C_below h.h0 hw) hmax (by omega))
    have h27 : GetSure w 27 (.agg #[.slice A0 b.s.length c0, .slice A1 b.n.length c1, .slice A2 b.y.length c2]) sheet col row ((getR b.s sheet col row).getD (zc col row)) (getR b.s sheet col row).isSome := .of fun w' hw => by
      by_cases hh : 0 ≤ sheet ∧ sheet < b.s.length
      · refine refGet_in A0 c0 b.s A1 _ c1 A2 _ c2 sheet col row w' (Kd.C_below h.h0 hw) hh.1 hh.2 ?_
        rw [rd65 hh.1 hh.2]
        exact hmax _ (List.getElem_mem _)
      · exact refGet_out A0 c0 b.s A1 _ c1 A2 _ c2 sheet col row w' hh
    exact looks_walk w A0 _ c0 A1 _ c1 A2 _ c2 name sheet col row _ _ _ _ _ (getR_small (by omega) (by omega)) h9 h24 h27
      (sure29 h (by omega) (by omega) (by omega) name) (sure30 h (by omega) (by omega) (by omega) name) (sure31 h (by omega) (by omega) (by omega) name) (sure32 h (by omega) (by omega) (by omega) name)
      (sure33 h (by omega) (by omega) (by omega) name) (sure34 h (by omega) (by omega) (by omega) name) h12
end Go.Proofs.YtnafcjaddnkioaaGreatDoor.PLooks
end
