/- The values' own types: written by the kit's printer for this claim. -/
import Derived.Test.YtnafcjaddnkioaaGreatDoorProg
import Derived.Below
import Derived.Deep.Draws
import Derived.Deep.AppendLies
import Derived.Maps.AppendAt
import Derived.OwnWalk
import Derived.Laws.BytesArg
import Derived.Laws.MakeOwn
import Derived.Laws.OwnMore
import Derived.Deep.OwnRows
import Derived.Tactics
import Derived.Lib.ConvBytes
import Derived.Laws.Slices
import Derived.WalkKit
import Derived.KernelRfl
import Derived.RowKit3
import Derived.Deep.LoopGhost
import Derived.Deep.QuietTactic
import Derived.BigQuiet
import Derived.WideLaws
import Derived.Deep.DeepCutAuto
import Derived.Deep.CutBlock
import Derived.Deep.RegionHeld3
import Derived.Laws.Rows
import Derived.Lib.AppendStr
import Derived.ArgAppend
import Derived.Laws.IdiomCopy
import Derived.OrdersHeld
import Derived.Laws.BitsLemmas
import Derived.RowKit
import Derived.Test.YtnafcjaddnkioaaGreatDoorQA
section
set_option linter.unusedVariables false
set_option linter.unusedSimpArgs false
namespace Go.Proofs.YtnafcjaddnkioaaGreatDoor.PLooks
open Go.RowKit Go.Proofs.YtnafcjaddnkioaaGreatDoorW.PrintWords Go.Proofs.YtnafcjaddnkioaaGreatDoorW.PrintLast Go.Proofs.YtnafcjaddnkioaaGreatDoorW.PrintMore
attribute [local go_sem] max2_int min2_int max_two min_two max_three min_three max_four min_four   -- for this text's walks alone
set_option linter.unusedVariables false
set_option linter.unusedSimpArgs false
def errW : Option Int → Value
  | none => .nilIface
  | some c => .iface 0 (.int .i64 c)
theorem errW_none : errW none = .nilIface := rfl
theorem errW_some (c : Int) : errW (some c) = .iface 0 (.int .i64 c) := rfl
theorem info9 : (Tryz.prog.info? 9).map (fun i => (i.zero, i.size, i.bytes)) = some (some (.string ⟨#[]⟩), 1, 16) := by kernel_rfl
-- the values' own types
/-! #### struct type 28 -/
structure S28 where
  f0 : Int
  f1 : Int
def z28 : S28 := ⟨(0 : Int), (0 : Int)⟩
def k28 : Kd S28 := Kd.iso (Kd.pair (Kd.int .i64) (Kd.int .i64)) (fun x : S28 => (x.f0, x.f1))
theorem k28_open {w : World} {x : S28} {cs : List Value} (h : k28.K w x cs) : cs = [.int .i64 x.f0, .int .i64 x.f1] := by
  obtain ⟨_, _, rfl, rfl, rfl⟩ := h
  exact rfl
theorem k28_mk (w : World) (x : S28)  : k28.K w x [.int .i64 x.f0, .int .i64 x.f1] := ⟨[.int .i64 x.f0], [.int .i64 x.f1], rfl, rfl, rfl⟩
/-! #### struct type 30 -/
structure S30 where
  f0 : Int
  f1 : S28
  f2 : ByteArray
  f3 : Bool
  f4 : Int
def z30 : S30 := ⟨(0 : Int), z28, (⟨#[]⟩ : ByteArray), false, (0 : Int)⟩
def k30 : Kd S30 := Kd.iso (Kd.pair (Kd.int .i64) (Kd.pair k28 (Kd.pair Kd.string (Kd.pair Kd.bool (Kd.int .i64))))) (fun x : S30 => (x.f0, x.f1, x.f2, x.f3, x.f4))
theorem k30_open {w : World} {x : S30} {cs : List Value} (h : k30.K w x cs) : cs = [.int .i64 x.f0, .int .i64 x.f1.f0, .int .i64 x.f1.f1, .string x.f2, .bool x.f3, .int .i64 x.f4] := by
  obtain ⟨_, _, rfl, rfl, ⟨_, _, rfl, s1, ⟨_, _, rfl, rfl, ⟨_, _, rfl, rfl, rfl⟩⟩⟩⟩ := h
  obtain rfl := k28_open s1
  exact rfl
theorem k30_mk (w : World) (x : S30)  : k30.K w x [.int .i64 x.f0, .int .i64 x.f1.f0, .int .i64 x.f1.f1, .string x.f2, .bool x.f3, .int .i64 x.f4] := ⟨[.int .i64 x.f0], [.int .i64 x.f1.f0, .int .i64 x.f1.f1, .string x.f2, .bool x.f3, .int .i64 x.f4], rfl, rfl, ⟨[.int .i64 x.f1.f0, .int .i64 x.f1.f1], [.string x.f2, .bool x.f3, .int .i64 x.f4], rfl, (k28_mk w x.f1 ), ⟨[.string x.f2], [.bool x.f3, .int .i64 x.f4], rfl, rfl, ⟨[.bool x.f3], [.int .i64 x.f4], rfl, rfl, rfl⟩⟩⟩⟩
/-! #### struct type 32 -/
structure S32 where
  f0 : ByteArray
  f1 : Int
  f2 : Int
  f3 : Bool
  f4 : Bool
def z32 : S32 := ⟨(⟨#[]⟩ : ByteArray), (0 : Int), (0 : Int), false, false⟩
def k32 : Kd S32 := Kd.iso (Kd.pair Kd.string (Kd.pair (Kd.int .i64) (Kd.pair (Kd.int .i64) (Kd.pair Kd.bool Kd.bool)))) (fun x : S32 => (x.f0, x.f1, x.f2, x.f3, x.f4))
theorem k32_open {w : World} {x : S32} {cs : List Value} (h : k32.K w x cs) : cs = [.string x.f0, .int .i64 x.f1, .int .i64 x.f2, .bool x.f3, .bool x.f4] := by
  obtain ⟨_, _, rfl, rfl, ⟨_, _, rfl, rfl, ⟨_, _, rfl, rfl, ⟨_, _, rfl, rfl, rfl⟩⟩⟩⟩ := h
  exact rfl
theorem k32_mk (w : World) (x : S32)  : k32.K w x [.string x.f0, .int .i64 x.f1, .int .i64 x.f2, .bool x.f3, .bool x.f4] := ⟨[.string x.f0], [.int .i64 x.f1, .int .i64 x.f2, .bool x.f3, .bool x.f4], rfl, rfl, ⟨[.int .i64 x.f1], [.int .i64 x.f2, .bool x.f3, .bool x.f4], rfl, rfl, ⟨[.int .i64 x.f2], [.bool x.f3, .bool x.f4], rfl, rfl, ⟨[.bool x.f3], [.bool x.f4], rfl, rfl, rfl⟩⟩⟩⟩
/-! #### struct type 35, nested in itself -/
structure S35 where
  f0 : Int
  f1 : S30
  f2 : S32
  f3 : S32
  f4 : ByteArray
  f5 : Int
  f6 : (List S35)
def z35 : S35 := ⟨(0 : Int), z30, z32, z32, (⟨#[]⟩ : ByteArray), (0 : Int), ([] : List S35)⟩
def F35 (d : Kd S35) : Kd S35 := Kd.iso (Kd.pair (Kd.int .i64) (Kd.pair k30 (Kd.pair k32 (Kd.pair k32 (Kd.pair Kd.string (Kd.pair (Kd.int .i64) (Kd.slice 35 d))))))) (fun x : S35 => (x.f0, x.f1, x.f2, x.f3, x.f4, x.f5, x.f6))
theorem mono35 : Kd.Mono F35 := Kd.mono_iso _ (Kd.mono_pair (Kd.mono_const _) (Kd.mono_pair (Kd.mono_const _) (Kd.mono_pair (Kd.mono_const _) (Kd.mono_pair (Kd.mono_const _) (Kd.mono_pair (Kd.mono_const _) (Kd.mono_pair (Kd.mono_const _) (Kd.mono_slice 35 Kd.mono_id)))))))
theorem sub35 : Kd.Sub F35 [35] := Kd.sub_iso _ (Kd.sub_pair (Kd.sub_const _ (by decide)) (Kd.sub_pair (Kd.sub_const _ (by decide)) (Kd.sub_pair (Kd.sub_const _ (by decide)) (Kd.sub_pair (Kd.sub_const _ (by decide)) (Kd.sub_pair (Kd.sub_const _ (by decide)) (Kd.sub_pair (Kd.sub_const _ (by decide)) (Kd.sub_slice 35 (by decide) Kd.sub_id)))))))
theorem sz35 : ∀ n, (Kd.upto F35 20 [35] n).sz = 20 := Kd.upto_sz (fun _ => rfl)
def k35 : Kd S35 := Kd.fix F35 20 [35] sz35 (Kd.upto_E sub35)
theorem k35_open {w : World} {x : S35} {cs : List Value} (h : k35.K w x cs) : ∃ A19 c19, cs = [.int .i64 x.f0, .int .i64 x.f1.f0, .int .i64 x.f1.f1.f0, .int .i64 x.f1.f1.f1, .string x.f1.f2, .bool x.f1.f3, .int .i64 x.f1.f4, .string x.f2.f0, .int .i64 x.f2.f1, .int .i64 x.f2.f2, .bool x.f2.f3, .bool x.f2.f4, .string x.f3.f0, .int .i64 x.f3.f1, .int .i64 x.f3.f2, .bool x.f3.f3, .bool x.f3.f4, .string x.f4, .int .i64 x.f5, .slice A19 x.f6.length c19] ∧ x.f6.length ≤ c19 ∧ k35.C w A19 x.f6.length x.f6 := by
  obtain ⟨n, h⟩ := h
  cases n with
  | zero => exact h.elim
  | succ n =>
    obtain ⟨_, _, rfl, rfl, ⟨_, _, rfl, s1, ⟨_, _, rfl, s7, ⟨_, _, rfl, s12, ⟨_, _, rfl, rfl, ⟨_, _, rfl, rfl, ⟨A19, c19, rfl, l19, g19⟩⟩⟩⟩⟩⟩⟩ := h
    obtain rfl := k30_open s1
    obtain rfl := k32_open s7
    obtain rfl := k32_open s12
    exact ⟨A19, c19, rfl, l19, Kd.fix_C g19⟩
theorem k35_mk (w : World) (x : S35) {A19 : Option Addr} {c19 : Nat} (l19 : x.f6.length ≤ c19) (g19 : k35.C w A19 x.f6.length x.f6) : k35.K w x [.int .i64 x.f0, .int .i64 x.f1.f0, .int .i64 x.f1.f1.f0, .int .i64 x.f1.f1.f1, .string x.f1.f2, .bool x.f1.f3, .int .i64 x.f1.f4, .string x.f2.f0, .int .i64 x.f2.f1, .int .i64 x.f2.f2, .bool x.f2.f3, .bool x.f2.f4, .string x.f3.f0, .int .i64 x.f3.f1, .int .i64 x.f3.f2, .bool x.f3.f3, .bool x.f3.f4, .string x.f4, .int .i64 x.f5, .slice A19 x.f6.length c19] := by
  obtain ⟨n19, q19⟩ := Kd.fix_C_back mono35 g19
  have r19 := Kd.upto_C_le mono35 sz35 (show n19 ≤ n19 by omega) q19
  exact ⟨n19 + 1, ⟨[.int .i64 x.f0], [.int .i64 x.f1.f0, .int .i64 x.f1.f1.f0, .int .i64 x.f1.f1.f1, .string x.f1.f2, .bool x.f1.f3, .int .i64 x.f1.f4, .string x.f2.f0, .int .i64 x.f2.f1, .int .i64 x.f2.f2, .bool x.f2.f3, .bool x.f2.f4, .string x.f3.f0, .int .i64 x.f3.f1, .int .i64 x.f3.f2, .bool x.f3.f3, .bool x.f3.f4, .string x.f4, .int .i64 x.f5, .slice A19 x.f6.length c19], rfl, rfl, ⟨[.int .i64 x.f1.f0, .int .i64 x.f1.f1.f0, .int .i64 x.f1.f1.f1, .string x.f1.f2, .bool x.f1.f3, .int .i64 x.f1.f4], [.string x.f2.f0, .int .i64 x.f2.f1, .int .i64 x.f2.f2, .bool x.f2.f3, .bool x.f2.f4, .string x.f3.f0, .int .i64 x.f3.f1, .int .i64 x.f3.f2, .bool x.f3.f3, .bool x.f3.f4, .string x.f4, .int .i64 x.f5, .slice A19 x.f6.length c19], rfl, (k30_mk w x.f1 ), ⟨[.string x.f2.f0, .int .i64 x.f2.f1, .int .i64 x.f2.f2, .bool x.f2.f3, .bool x.f2.f4], [.string x.f3.f0, .int .i64 x.f3.f1, .int .i64 x.f3.f2, .bool x.f3.f3, .bool x.f3.f4, .string x.f4, .int .i64 x.f5, .slice A19 x.f6.length c19], rfl, (k32_mk w x.f2 ), ⟨[.string x.f3.f0, .int .i64 x.f3.f1, .int .i64 x.f3.f2, .bool x.f3.f3, .bool x.f3.f4], [.string x.f4, .int .i64 x.f5, .slice A19 x.f6.length c19], rfl, (k32_mk w x.f3 ), ⟨[.string x.f4], [.int .i64 x.f5, .slice A19 x.f6.length c19], rfl, rfl, ⟨[.int .i64 x.f5], [.slice A19 x.f6.length c19], rfl, rfl, ⟨A19, c19, rfl, l19, r19⟩⟩⟩⟩⟩⟩⟩⟩
def rd_T35 (xs : List S35) (i : Int) : S35 := xs.getD i.toNat z35
theorem at_T35 {w : World} {A : Option Addr} {n : Nat} {xs : List S35} (h : Kd.C k35 w A n xs) (i : Int) (h0 : 0 ≤ i) (h1 : i < n) : ∃ ad A19 c19, A = some ad ∧ w.cell? (ad.add (i.toNat * 20)) = some (.int .i64 (rd_T35 xs i).f0) ∧ w.cell? ⟨(ad.add (i.toNat * 20)).block, (ad.add (i.toNat * 20)).off + 1, none⟩ = some (.int .i64 (rd_T35 xs i).f1.f0) ∧ w.cell? ⟨(ad.add (i.toNat * 20)).block, (ad.add (i.toNat * 20)).off + 2, none⟩ = some (.int .i64 (rd_T35 xs i).f1.f1.f0) ∧ w.cell? ⟨(ad.add (i.toNat * 20)).block, (ad.add (i.toNat * 20)).off + 3, none⟩ = some (.int .i64 (rd_T35 xs i).f1.f1.f1) ∧ w.cell? ⟨(ad.add (i.toNat * 20)).block, (ad.add (i.toNat * 20)).off + 4, none⟩ = some (.string (rd_T35 xs i).f1.f2) ∧ w.cell? ⟨(ad.add (i.toNat * 20)).block, (ad.add (i.toNat * 20)).off + 5, none⟩ = some (.bool (rd_T35 xs i).f1.f3) ∧ w.cell? ⟨(ad.add (i.toNat * 20)).block, (ad.add (i.toNat * 20)).off + 6, none⟩ = some (.int .i64 (rd_T35 xs i).f1.f4) ∧ w.cell? ⟨(ad.add (i.toNat * 20)).block, (ad.add (i.toNat * 20)).off + 7, none⟩ = some (.string (rd_T35 xs i).f2.f0) ∧ w.cell? ⟨(ad.add (i.toNat * 20)).block, (ad.add (i.toNat * 20)).off + 8, none⟩ = some (.int .i64 (rd_T35 xs i).f2.f1) ∧ w.cell? ⟨(ad.add (i.toNat * 20)).block, (ad.add (i.toNat * 20)).off + 9, none⟩ = some (.int .i64 (rd_T35 xs i).f2.f2) ∧ w.cell? ⟨(ad.add (i.toNat * 20)).block, (ad.add (i.toNat * 20)).off + 10, none⟩ = some (.bool (rd_T35 xs i).f2.f3) ∧ w.cell? ⟨(ad.add (i.toNat * 20)).block, (ad.add (i.toNat * 20)).off + 11, none⟩ = some (.bool (rd_T35 xs i).f2.f4) ∧ w.cell? ⟨(ad.add (i.toNat * 20)).block, (ad.add (i.toNat * 20)).off + 12, none⟩ = some (.string (rd_T35 xs i).f3.f0) ∧ w.cell? ⟨(ad.add (i.toNat * 20)).block, (ad.add (i.toNat * 20)).off + 13, none⟩ = some (.int .i64 (rd_T35 xs i).f3.f1) ∧ w.cell? ⟨(ad.add (i.toNat * 20)).block, (ad.add (i.toNat * 20)).off + 14, none⟩ = some (.int .i64 (rd_T35 xs i).f3.f2) ∧ w.cell? ⟨(ad.add (i.toNat * 20)).block, (ad.add (i.toNat * 20)).off + 15, none⟩ = some (.bool (rd_T35 xs i).f3.f3) ∧ w.cell? ⟨(ad.add (i.toNat * 20)).block, (ad.add (i.toNat * 20)).off + 16, none⟩ = some (.bool (rd_T35 xs i).f3.f4) ∧ w.cell? ⟨(ad.add (i.toNat * 20)).block, (ad.add (i.toNat * 20)).off + 17, none⟩ = some (.string (rd_T35 xs i).f4) ∧ w.cell? ⟨(ad.add (i.toNat * 20)).block, (ad.add (i.toNat * 20)).off + 18, none⟩ = some (.int .i64 (rd_T35 xs i).f5) ∧ w.cell? ⟨(ad.add (i.toNat * 20)).block, (ad.add (i.toNat * 20)).off + 19, none⟩ = some (.slice A19 (rd_T35 xs i).f6.length c19) ∧ (rd_T35 xs i).f6.length ≤ c19 ∧ k35.C w A19 (rd_T35 xs i).f6.length (rd_T35 xs i).f6 := by
  obtain ⟨ad, c, e, _, hK, hc0⟩ := Kd.C_get h z35 i h0 h1
  have hc : ∀ j u, c[j]? = some u → w.cell? (ad.add (i.toNat * 20 + j)) = some u := hc0
  obtain ⟨A19, c19, rfl, l19, g19⟩ := k35_open hK
  exact ⟨ad, A19, c19, e, hc 0 _ rfl, by rw [← add_field _ _ 1 (by omega)]; exact hc 1 _ rfl, by rw [← add_field _ _ 2 (by omega)]; exact hc 2 _ rfl, by rw [← add_field _ _ 3 (by omega)]; exact hc 3 _ rfl, by rw [← add_field _ _ 4 (by omega)]; exact hc 4 _ rfl, by rw [← add_field _ _ 5 (by omega)]; exact hc 5 _ rfl, by rw [← add_field _ _ 6 (by omega)]; exact hc 6 _ rfl, by rw [← add_field _ _ 7 (by omega)]; exact hc 7 _ rfl, by rw [← add_field _ _ 8 (by omega)]; exact hc 8 _ rfl, by rw [← add_field _ _ 9 (by omega)]; exact hc 9 _ rfl, by rw [← add_field _ _ 10 (by omega)]; exact hc 10 _ rfl, by rw [← add_field _ _ 11 (by omega)]; exact hc 11 _ rfl, by rw [← add_field _ _ 12 (by omega)]; exact hc 12 _ rfl, by rw [← add_field _ _ 13 (by omega)]; exact hc 13 _ rfl, by rw [← add_field _ _ 14 (by omega)]; exact hc 14 _ rfl, by rw [← add_field _ _ 15 (by omega)]; exact hc 15 _ rfl, by rw [← add_field _ _ 16 (by omega)]; exact hc 16 _ rfl, by rw [← add_field _ _ 17 (by omega)]; exact hc 17 _ rfl, by rw [← add_field _ _ 18 (by omega)]; exact hc 18 _ rfl, by rw [← add_field _ _ 19 (by omega)]; exact hc 19 _ rfl, l19, g19⟩
/-! #### struct type 37 -/
structure S37 where
  f0 : Bool
  f1 : S30
  f2 : S35
def z37 : S37 := ⟨false, z30, z35⟩
def k37 : Kd S37 := Kd.iso (Kd.pair Kd.bool (Kd.pair k30 k35)) (fun x : S37 => (x.f0, x.f1, x.f2))
theorem k37_open {w : World} {x : S37} {cs : List Value} (h : k37.K w x cs) : ∃ A26 c26, cs = [.bool x.f0, .int .i64 x.f1.f0, .int .i64 x.f1.f1.f0, .int .i64 x.f1.f1.f1, .string x.f1.f2, .bool x.f1.f3, .int .i64 x.f1.f4, .int .i64 x.f2.f0, .int .i64 x.f2.f1.f0, .int .i64 x.f2.f1.f1.f0, .int .i64 x.f2.f1.f1.f1, .string x.f2.f1.f2, .bool x.f2.f1.f3, .int .i64 x.f2.f1.f4, .string x.f2.f2.f0, .int .i64 x.f2.f2.f1, .int .i64 x.f2.f2.f2, .bool x.f2.f2.f3, .bool x.f2.f2.f4, .string x.f2.f3.f0, .int .i64 x.f2.f3.f1, .int .i64 x.f2.f3.f2, .bool x.f2.f3.f3, .bool x.f2.f3.f4, .string x.f2.f4, .int .i64 x.f2.f5, .slice A26 x.f2.f6.length c26] ∧ x.f2.f6.length ≤ c26 ∧ k35.C w A26 x.f2.f6.length x.f2.f6 := by
  obtain ⟨_, _, rfl, rfl, ⟨_, _, rfl, s1, s7⟩⟩ := h
  obtain rfl := k30_open s1
  obtain ⟨A26, c26, rfl, l26, g26⟩ := k35_open s7
  exact ⟨A26, c26, rfl, l26, g26⟩
theorem k37_mk (w : World) (x : S37) {A26 : Option Addr} {c26 : Nat} (l26 : x.f2.f6.length ≤ c26) (g26 : k35.C w A26 x.f2.f6.length x.f2.f6) : k37.K w x [.bool x.f0, .int .i64 x.f1.f0, .int .i64 x.f1.f1.f0, .int .i64 x.f1.f1.f1, .string x.f1.f2, .bool x.f1.f3, .int .i64 x.f1.f4, .int .i64 x.f2.f0, .int .i64 x.f2.f1.f0, .int .i64 x.f2.f1.f1.f0, .int .i64 x.f2.f1.f1.f1, .string x.f2.f1.f2, .bool x.f2.f1.f3, .int .i64 x.f2.f1.f4, .string x.f2.f2.f0, .int .i64 x.f2.f2.f1, .int .i64 x.f2.f2.f2, .bool x.f2.f2.f3, .bool x.f2.f2.f4, .string x.f2.f3.f0, .int .i64 x.f2.f3.f1, .int .i64 x.f2.f3.f2, .bool x.f2.f3.f3, .bool x.f2.f3.f4, .string x.f2.f4, .int .i64 x.f2.f5, .slice A26 x.f2.f6.length c26] := ⟨[.bool x.f0], [.int .i64 x.f1.f0, .int .i64 x.f1.f1.f0, .int .i64 x.f1.f1.f1, .string x.f1.f2, .bool x.f1.f3, .int .i64 x.f1.f4, .int .i64 x.f2.f0, .int .i64 x.f2.f1.f0, .int .i64 x.f2.f1.f1.f0, .int .i64 x.f2.f1.f1.f1, .string x.f2.f1.f2, .bool x.f2.f1.f3, .int .i64 x.f2.f1.f4, .string x.f2.f2.f0, .int .i64 x.f2.f2.f1, .int .i64 x.f2.f2.f2, .bool x.f2.f2.f3, .bool x.f2.f2.f4, .string x.f2.f3.f0, .int .i64 x.f2.f3.f1, .int .i64 x.f2.f3.f2, .bool x.f2.f3.f3, .bool x.f2.f3.f4, .string x.f2.f4, .int .i64 x.f2.f5, .slice A26 x.f2.f6.length c26], rfl, rfl, ⟨[.int .i64 x.f1.f0, .int .i64 x.f1.f1.f0, .int .i64 x.f1.f1.f1, .string x.f1.f2, .bool x.f1.f3, .int .i64 x.f1.f4], [.int .i64 x.f2.f0, .int .i64 x.f2.f1.f0, .int .i64 x.f2.f1.f1.f0, .int .i64 x.f2.f1.f1.f1, .string x.f2.f1.f2, .bool x.f2.f1.f3, .int .i64 x.f2.f1.f4, .string x.f2.f2.f0, .int .i64 x.f2.f2.f1, .int .i64 x.f2.f2.f2, .bool x.f2.f2.f3, .bool x.f2.f2.f4, .string x.f2.f3.f0, .int .i64 x.f2.f3.f1, .int .i64 x.f2.f3.f2, .bool x.f2.f3.f3, .bool x.f2.f3.f4, .string x.f2.f4, .int .i64 x.f2.f5, .slice A26 x.f2.f6.length c26], rfl, (k30_mk w x.f1 ), (k35_mk w x.f2 l26 g26)⟩⟩
/-! #### struct type 39 -/
structure S39 where
  f0 : Int
  f1 : Int
  f2 : S37
  f3 : Int
def z39 : S39 := ⟨(0 : Int), (0 : Int), z37, (0 : Int)⟩
def k39 : Kd S39 := Kd.iso (Kd.pair (Kd.int .i64) (Kd.pair (Kd.int .i64) (Kd.pair k37 (Kd.int .i64)))) (fun x : S39 => (x.f0, x.f1, x.f2, x.f3))
theorem k39_open {w : World} {x : S39} {cs : List Value} (h : k39.K w x cs) : ∃ A28 c28, cs = [.int .i64 x.f0, .int .i64 x.f1, .bool x.f2.f0, .int .i64 x.f2.f1.f0, .int .i64 x.f2.f1.f1.f0, .int .i64 x.f2.f1.f1.f1, .string x.f2.f1.f2, .bool x.f2.f1.f3, .int .i64 x.f2.f1.f4, .int .i64 x.f2.f2.f0, .int .i64 x.f2.f2.f1.f0, .int .i64 x.f2.f2.f1.f1.f0, .int .i64 x.f2.f2.f1.f1.f1, .string x.f2.f2.f1.f2, .bool x.f2.f2.f1.f3, .int .i64 x.f2.f2.f1.f4, .string x.f2.f2.f2.f0, .int .i64 x.f2.f2.f2.f1, .int .i64 x.f2.f2.f2.f2, .bool x.f2.f2.f2.f3, .bool x.f2.f2.f2.f4, .string x.f2.f2.f3.f0, .int .i64 x.f2.f2.f3.f1, .int .i64 x.f2.f2.f3.f2, .bool x.f2.f2.f3.f3, .bool x.f2.f2.f3.f4, .string x.f2.f2.f4, .int .i64 x.f2.f2.f5, .slice A28 x.f2.f2.f6.length c28, .int .i64 x.f3] ∧ x.f2.f2.f6.length ≤ c28 ∧ k35.C w A28 x.f2.f2.f6.length x.f2.f2.f6 := by
  obtain ⟨_, _, rfl, rfl, ⟨_, _, rfl, rfl, ⟨_, _, rfl, s2, rfl⟩⟩⟩ := h
  obtain ⟨A28, c28, rfl, l28, g28⟩ := k37_open s2
  exact ⟨A28, c28, rfl, l28, g28⟩
theorem k39_mk (w : World) (x : S39) {A28 : Option Addr} {c28 : Nat} (l28 : x.f2.f2.f6.length ≤ c28) (g28 : k35.C w A28 x.f2.f2.f6.length x.f2.f2.f6) : k39.K w x [.int .i64 x.f0, .int .i64 x.f1, .bool x.f2.f0, .int .i64 x.f2.f1.f0, .int .i64 x.f2.f1.f1.f0, .int .i64 x.f2.f1.f1.f1, .string x.f2.f1.f2, .bool x.f2.f1.f3, .int .i64 x.f2.f1.f4, .int .i64 x.f2.f2.f0, .int .i64 x.f2.f2.f1.f0, .int .i64 x.f2.f2.f1.f1.f0, .int .i64 x.f2.f2.f1.f1.f1, .string x.f2.f2.f1.f2, .bool x.f2.f2.f1.f3, .int .i64 x.f2.f2.f1.f4, .string x.f2.f2.f2.f0, .int .i64 x.f2.f2.f2.f1, .int .i64 x.f2.f2.f2.f2, .bool x.f2.f2.f2.f3, .bool x.f2.f2.f2.f4, .string x.f2.f2.f3.f0, .int .i64 x.f2.f2.f3.f1, .int .i64 x.f2.f2.f3.f2, .bool x.f2.f2.f3.f3, .bool x.f2.f2.f3.f4, .string x.f2.f2.f4, .int .i64 x.f2.f2.f5, .slice A28 x.f2.f2.f6.length c28, .int .i64 x.f3] := ⟨[.int .i64 x.f0], [.int .i64 x.f1, .bool x.f2.f0, .int .i64 x.f2.f1.f0, .int .i64 x.f2.f1.f1.f0, .int .i64 x.f2.f1.f1.f1, .string x.f2.f1.f2, .bool x.f2.f1.f3, .int .i64 x.f2.f1.f4, .int .i64 x.f2.f2.f0, .int .i64 x.f2.f2.f1.f0, .int .i64 x.f2.f2.f1.f1.f0, .int .i64 x.f2.f2.f1.f1.f1, .string x.f2.f2.f1.f2, .bool x.f2.f2.f1.f3, .int .i64 x.f2.f2.f1.f4, .string x.f2.f2.f2.f0, .int .i64 x.f2.f2.f2.f1, .int .i64 x.f2.f2.f2.f2, .bool x.f2.f2.f2.f3, .bool x.f2.f2.f2.f4, .string x.f2.f2.f3.f0, .int .i64 x.f2.f2.f3.f1, .int .i64 x.f2.f2.f3.f2, .bool x.f2.f2.f3.f3, .bool x.f2.f2.f3.f4, .string x.f2.f2.f4, .int .i64 x.f2.f2.f5, .slice A28 x.f2.f2.f6.length c28, .int .i64 x.f3], rfl, rfl, ⟨[.int .i64 x.f1], [.bool x.f2.f0, .int .i64 x.f2.f1.f0, .int .i64 x.f2.f1.f1.f0, .int .i64 x.f2.f1.f1.f1, .string x.f2.f1.f2, .bool x.f2.f1.f3, .int .i64 x.f2.f1.f4, .int .i64 x.f2.f2.f0, .int .i64 x.f2.f2.f1.f0, .int .i64 x.f2.f2.f1.f1.f0, .int .i64 x.f2.f2.f1.f1.f1, .string x.f2.f2.f1.f2, .bool x.f2.f2.f1.f3, .int .i64 x.f2.f2.f1.f4, .string x.f2.f2.f2.f0, .int .i64 x.f2.f2.f2.f1, .int .i64 x.f2.f2.f2.f2, .bool x.f2.f2.f2.f3, .bool x.f2.f2.f2.f4, .string x.f2.f2.f3.f0, .int .i64 x.f2.f2.f3.f1, .int .i64 x.f2.f2.f3.f2, .bool x.f2.f2.f3.f3, .bool x.f2.f2.f3.f4, .string x.f2.f2.f4, .int .i64 x.f2.f2.f5, .slice A28 x.f2.f2.f6.length c28, .int .i64 x.f3], rfl, rfl, ⟨[.bool x.f2.f0, .int .i64 x.f2.f1.f0, .int .i64 x.f2.f1.f1.f0, .int .i64 x.f2.f1.f1.f1, .string x.f2.f1.f2, .bool x.f2.f1.f3, .int .i64 x.f2.f1.f4, .int .i64 x.f2.f2.f0, .int .i64 x.f2.f2.f1.f0, .int .i64 x.f2.f2.f1.f1.f0, .int .i64 x.f2.f2.f1.f1.f1, .string x.f2.f2.f1.f2, .bool x.f2.f2.f1.f3, .int .i64 x.f2.f2.f1.f4, .string x.f2.f2.f2.f0, .int .i64 x.f2.f2.f2.f1, .int .i64 x.f2.f2.f2.f2, .bool x.f2.f2.f2.f3, .bool x.f2.f2.f2.f4, .string x.f2.f2.f3.f0, .int .i64 x.f2.f2.f3.f1, .int .i64 x.f2.f2.f3.f2, .bool x.f2.f2.f3.f3, .bool x.f2.f2.f3.f4, .string x.f2.f2.f4, .int .i64 x.f2.f2.f5, .slice A28 x.f2.f2.f6.length c28], [.int .i64 x.f3], rfl, (k37_mk w x.f2 l28 g28), rfl⟩⟩⟩
def rd_T39 (xs : List S39) (i : Int) : S39 := xs.getD i.toNat z39
theorem at_T39 {w : World} {A : Option Addr} {n : Nat} {xs : List S39} (h : Kd.C k39 w A n xs) (i : Int) (h0 : 0 ≤ i) (h1 : i < n) : ∃ ad A28 c28, A = some ad ∧ w.cell? (ad.add (i.toNat * 30)) = some (.int .i64 (rd_T39 xs i).f0) ∧ w.cell? ⟨(ad.add (i.toNat * 30)).block, (ad.add (i.toNat * 30)).off + 1, none⟩ = some (.int .i64 (rd_T39 xs i).f1) ∧ w.cell? ⟨(ad.add (i.toNat * 30)).block, (ad.add (i.toNat * 30)).off + 2, none⟩ = some (.bool (rd_T39 xs i).f2.f0) ∧ w.cell? ⟨(ad.add (i.toNat * 30)).block, (ad.add (i.toNat * 30)).off + 3, none⟩ = some (.int .i64 (rd_T39 xs i).f2.f1.f0) ∧ w.cell? ⟨(ad.add (i.toNat * 30)).block, (ad.add (i.toNat * 30)).off + 4, none⟩ = some (.int .i64 (rd_T39 xs i).f2.f1.f1.f0) ∧ w.cell? ⟨(ad.add (i.toNat * 30)).block, (ad.add (i.toNat * 30)).off + 5, none⟩ = some (.int .i64 (rd_T39 xs i).f2.f1.f1.f1) ∧ w.cell? ⟨(ad.add (i.toNat * 30)).block, (ad.add (i.toNat * 30)).off + 6, none⟩ = some (.string (rd_T39 xs i).f2.f1.f2) ∧ w.cell? ⟨(ad.add (i.toNat * 30)).block, (ad.add (i.toNat * 30)).off + 7, none⟩ = some (.bool (rd_T39 xs i).f2.f1.f3) ∧ w.cell? ⟨(ad.add (i.toNat * 30)).block, (ad.add (i.toNat * 30)).off + 8, none⟩ = some (.int .i64 (rd_T39 xs i).f2.f1.f4) ∧ w.cell? ⟨(ad.add (i.toNat * 30)).block, (ad.add (i.toNat * 30)).off + 9, none⟩ = some (.int .i64 (rd_T39 xs i).f2.f2.f0) ∧ w.cell? ⟨(ad.add (i.toNat * 30)).block, (ad.add (i.toNat * 30)).off + 10, none⟩ = some (.int .i64 (rd_T39 xs i).f2.f2.f1.f0) ∧ w.cell? ⟨(ad.add (i.toNat * 30)).block, (ad.add (i.toNat * 30)).off + 11, none⟩ = some (.int .i64 (rd_T39 xs i).f2.f2.f1.f1.f0) ∧ w.cell? ⟨(ad.add (i.toNat * 30)).block, (ad.add (i.toNat * 30)).off + 12, none⟩ = some (.int .i64 (rd_T39 xs i).f2.f2.f1.f1.f1) ∧ w.cell? ⟨(ad.add (i.toNat * 30)).block, (ad.add (i.toNat * 30)).off + 13, none⟩ = some (.string (rd_T39 xs i).f2.f2.f1.f2) ∧ w.cell? ⟨(ad.add (i.toNat * 30)).block, (ad.add (i.toNat * 30)).off + 14, none⟩ = some (.bool (rd_T39 xs i).f2.f2.f1.f3) ∧ w.cell? ⟨(ad.add (i.toNat * 30)).block, (ad.add (i.toNat * 30)).off + 15, none⟩ = some (.int .i64 (rd_T39 xs i).f2.f2.f1.f4) ∧ w.cell? ⟨(ad.add (i.toNat * 30)).block, (ad.add (i.toNat * 30)).off + 16, none⟩ = some (.string (rd_T39 xs i).f2.f2.f2.f0) ∧ w.cell? ⟨(ad.add (i.toNat * 30)).block, (ad.add (i.toNat * 30)).off + 17, none⟩ = some (.int .i64 (rd_T39 xs i).f2.f2.f2.f1) ∧ w.cell? ⟨(ad.add (i.toNat * 30)).block, (ad.add (i.toNat * 30)).off + 18, none⟩ = some (.int .i64 (rd_T39 xs i).f2.f2.f2.f2) ∧ w.cell? ⟨(ad.add (i.toNat * 30)).block, (ad.add (i.toNat * 30)).off + 19, none⟩ = some (.bool (rd_T39 xs i).f2.f2.f2.f3) ∧ w.cell? ⟨(ad.add (i.toNat * 30)).block, (ad.add (i.toNat * 30)).off + 20, none⟩ = some (.bool (rd_T39 xs i).f2.f2.f2.f4) ∧ w.cell? ⟨(ad.add (i.toNat * 30)).block, (ad.add (i.toNat * 30)).off + 21, none⟩ = some (.string (rd_T39 xs i).f2.f2.f3.f0) ∧ w.cell? ⟨(ad.add (i.toNat * 30)).block, (ad.add (i.toNat * 30)).off + 22, none⟩ = some (.int .i64 (rd_T39 xs i).f2.f2.f3.f1) ∧ w.cell? ⟨(ad.add (i.toNat * 30)).block, (ad.add (i.toNat * 30)).off + 23, none⟩ = some (.int .i64 (rd_T39 xs i).f2.f2.f3.f2) ∧ w.cell? ⟨(ad.add (i.toNat * 30)).block, (ad.add (i.toNat * 30)).off + 24, none⟩ = some (.bool (rd_T39 xs i).f2.f2.f3.f3) ∧ w.cell? ⟨(ad.add (i.toNat * 30)).block, (ad.add (i.toNat * 30)).off + 25, none⟩ = some (.bool (rd_T39 xs i).f2.f2.f3.f4) ∧ w.cell? ⟨(ad.add (i.toNat * 30)).block, (ad.add (i.toNat * 30)).off + 26, none⟩ = some (.string (rd_T39 xs i).f2.f2.f4) ∧ w.cell? ⟨(ad.add (i.toNat * 30)).block, (ad.add (i.toNat * 30)).off + 27, none⟩ = some (.int .i64 (rd_T39 xs i).f2.f2.f5) ∧ w.cell? ⟨(ad.add (i.toNat * 30)).block, (ad.add (i.toNat * 30)).off + 28, none⟩ = some (.slice A28 (rd_T39 xs i).f2.f2.f6.length c28) ∧ w.cell? ⟨(ad.add (i.toNat * 30)).block, (ad.add (i.toNat * 30)).off + 29, none⟩ = some (.int .i64 (rd_T39 xs i).f3) ∧ (rd_T39 xs i).f2.f2.f6.length ≤ c28 ∧ k35.C w A28 (rd_T39 xs i).f2.f2.f6.length (rd_T39 xs i).f2.f2.f6 := by
  obtain ⟨ad, c, e, _, hK, hc0⟩ := Kd.C_get h z39 i h0 h1
  have hc : ∀ j u, c[j]? = some u → w.cell? (ad.add (i.toNat * 30 + j)) = some u := hc0
  obtain ⟨A28, c28, rfl, l28, g28⟩ := k39_open hK
  exact ⟨ad, A28, c28, e, hc 0 _ rfl, by rw [← add_field _ _ 1 (by omega)]; exact hc 1 _ rfl, by rw [← add_field _ _ 2 (by omega)]; exact hc 2 _ rfl, by rw [← add_field _ _ 3 (by omega)]; exact hc 3 _ rfl, by rw [← add_field _ _ 4 (by omega)]; exact hc 4 _ rfl, by rw [← add_field _ _ 5 (by omega)]; exact hc 5 _ rfl, by rw [← add_field _ _ 6 (by omega)]; exact hc 6 _ rfl, by rw [← add_field _ _ 7 (by omega)]; exact hc 7 _ rfl, by rw [← add_field _ _ 8 (by omega)]; exact hc 8 _ rfl, by rw [← add_field _ _ 9 (by omega)]; exact hc 9 _ rfl, by rw [← add_field _ _ 10 (by omega)]; exact hc 10 _ rfl, by rw [← add_field _ _ 11 (by omega)]; exact hc 11 _ rfl, by rw [← add_field _ _ 12 (by omega)]; exact hc 12 _ rfl, by rw [← add_field _ _ 13 (by omega)]; exact hc 13 _ rfl, by rw [← add_field _ _ 14 (by omega)]; exact hc 14 _ rfl, by rw [← add_field _ _ 15 (by omega)]; exact hc 15 _ rfl, by rw [← add_field _ _ 16 (by omega)]; exact hc 16 _ rfl, by rw [← add_field _ _ 17 (by omega)]; exact hc 17 _ rfl, by rw [← add_field _ _ 18 (by omega)]; exact hc 18 _ rfl, by rw [← add_field _ _ 19 (by omega)]; exact hc 19 _ rfl, by rw [← add_field _ _ 20 (by omega)]; exact hc 20 _ rfl, by rw [← add_field _ _ 21 (by omega)]; exact hc 21 _ rfl, by rw [← add_field _ _ 22 (by omega)]; exact hc 22 _ rfl, by rw [← add_field _ _ 23 (by omega)]; exact hc 23 _ rfl, by rw [← add_field _ _ 24 (by omega)]; exact hc 24 _ rfl, by rw [← add_field _ _ 25 (by omega)]; exact hc 25 _ rfl, by rw [← add_field _ _ 26 (by omega)]; exact hc 26 _ rfl, by rw [← add_field _ _ 27 (by omega)]; exact hc 27 _ rfl, by rw [← add_field _ _ 28 (by omega)]; exact hc 28 _ rfl, by rw [← add_field _ _ 29 (by omega)]; exact hc 29 _ rfl, l28, g28⟩
/-! #### struct type 65 -/
structure S65 where
  f0 : ByteArray
  f1 : (List S39)
def z65 : S65 := ⟨(⟨#[]⟩ : ByteArray), ([] : List S39)⟩
def k65 : Kd S65 := Kd.iso (Kd.pair Kd.string (Kd.slice 39 k39)) (fun x : S65 => (x.f0, x.f1))
theorem k65_open {w : World} {x : S65} {cs : List Value} (h : k65.K w x cs) : ∃ A1 c1, cs = [.string x.f0, .slice A1 x.f1.length c1] ∧ x.f1.length ≤ c1 ∧ k39.C w A1 x.f1.length x.f1 := by
  obtain ⟨_, _, rfl, rfl, ⟨A1, c1, rfl, l1, g1⟩⟩ := h
  exact ⟨A1, c1, rfl, l1, g1⟩
def rd_T65 (xs : List S65) (i : Int) : S65 := xs.getD i.toNat z65
theorem at_T65 {w : World} {A : Option Addr} {n : Nat} {xs : List S65} (h : Kd.C k65 w A n xs) (i : Int) (h0 : 0 ≤ i) (h1 : i < n) : ∃ ad A1 c1, A = some ad ∧ w.cell? (ad.add (i.toNat * 2)) = some (.string (rd_T65 xs i).f0) ∧ w.cell? ⟨(ad.add (i.toNat * 2)).block, (ad.add (i.toNat * 2)).off + 1, none⟩ = some (.slice A1 (rd_T65 xs i).f1.length c1) ∧ (rd_T65 xs i).f1.length ≤ c1 ∧ k39.C w A1 (rd_T65 xs i).f1.length (rd_T65 xs i).f1 := by
  obtain ⟨ad, c, e, _, hK, hc0⟩ := Kd.C_get h z65 i h0 h1
  have hc : ∀ j u, c[j]? = some u → w.cell? (ad.add (i.toNat * 2 + j)) = some u := hc0
  obtain ⟨A1, c1, rfl, l1, g1⟩ := k65_open hK
  exact ⟨ad, A1, c1, e, hc 0 _ rfl, by rw [← add_field _ _ 1 (by omega)]; exact hc 1 _ rfl, l1, g1⟩
/-! #### struct type 67 -/
structure S67 where
  f0 : ByteArray
  f1 : S35
def z67 : S67 := ⟨(⟨#[]⟩ : ByteArray), z35⟩
def k67 : Kd S67 := Kd.iso (Kd.pair Kd.string k35) (fun x : S67 => (x.f0, x.f1))
theorem k67_open {w : World} {x : S67} {cs : List Value} (h : k67.K w x cs) : ∃ A20 c20, cs = [.string x.f0, .int .i64 x.f1.f0, .int .i64 x.f1.f1.f0, .int .i64 x.f1.f1.f1.f0, .int .i64 x.f1.f1.f1.f1, .string x.f1.f1.f2, .bool x.f1.f1.f3, .int .i64 x.f1.f1.f4, .string x.f1.f2.f0, .int .i64 x.f1.f2.f1, .int .i64 x.f1.f2.f2, .bool x.f1.f2.f3, .bool x.f1.f2.f4, .string x.f1.f3.f0, .int .i64 x.f1.f3.f1, .int .i64 x.f1.f3.f2, .bool x.f1.f3.f3, .bool x.f1.f3.f4, .string x.f1.f4, .int .i64 x.f1.f5, .slice A20 x.f1.f6.length c20] ∧ x.f1.f6.length ≤ c20 ∧ k35.C w A20 x.f1.f6.length x.f1.f6 := by
  obtain ⟨_, _, rfl, rfl, s1⟩ := h
  obtain ⟨A20, c20, rfl, l20, g20⟩ := k35_open s1
  exact ⟨A20, c20, rfl, l20, g20⟩
def rd_T67 (xs : List S67) (i : Int) : S67 := xs.getD i.toNat z67
theorem at_T67 {w : World} {A : Option Addr} {n : Nat} {xs : List S67} (h : Kd.C k67 w A n xs) (i : Int) (h0 : 0 ≤ i) (h1 : i < n) : ∃ ad A20 c20, A = some ad ∧ w.cell? (ad.add (i.toNat * 21)) = some (.string (rd_T67 xs i).f0) ∧ w.cell? ⟨(ad.add (i.toNat * 21)).block, (ad.add (i.toNat * 21)).off + 1, none⟩ = some (.int .i64 (rd_T67 xs i).f1.f0) ∧ w.cell? ⟨(ad.add (i.toNat * 21)).block, (ad.add (i.toNat * 21)).off + 2, none⟩ = some (.int .i64 (rd_T67 xs i).f1.f1.f0) ∧ w.cell? ⟨(ad.add (i.toNat * 21)).block, (ad.add (i.toNat * 21)).off + 3, none⟩ = some (.int .i64 (rd_T67 xs i).f1.f1.f1.f0) ∧ w.cell? ⟨(ad.add (i.toNat * 21)).block, (ad.add (i.toNat * 21)).off + 4, none⟩ = some (.int .i64 (rd_T67 xs i).f1.f1.f1.f1) ∧ w.cell? ⟨(ad.add (i.toNat * 21)).block, (ad.add (i.toNat * 21)).off + 5, none⟩ = some (.string (rd_T67 xs i).f1.f1.f2) ∧ w.cell? ⟨(ad.add (i.toNat * 21)).block, (ad.add (i.toNat * 21)).off + 6, none⟩ = some (.bool (rd_T67 xs i).f1.f1.f3) ∧ w.cell? ⟨(ad.add (i.toNat * 21)).block, (ad.add (i.toNat * 21)).off + 7, none⟩ = some (.int .i64 (rd_T67 xs i).f1.f1.f4) ∧ w.cell? ⟨(ad.add (i.toNat * 21)).block, (ad.add (i.toNat * 21)).off + 8, none⟩ = some (.string (rd_T67 xs i).f1.f2.f0) ∧ w.cell? ⟨(ad.add (i.toNat * 21)).block, (ad.add (i.toNat * 21)).off + 9, none⟩ = some (.int .i64 (rd_T67 xs i).f1.f2.f1) ∧ w.cell? ⟨(ad.add (i.toNat * 21)).block, (ad.add (i.toNat * 21)).off + 10, none⟩ = some (.int .i64 (rd_T67 xs i).f1.f2.f2) ∧ w.cell? ⟨(ad.add (i.toNat * 21)).block, (ad.add (i.toNat * 21)).off + 11, none⟩ = some (.bool (rd_T67 xs i).f1.f2.f3) ∧ w.cell? ⟨(ad.add (i.toNat * 21)).block, (ad.add (i.toNat * 21)).off + 12, none⟩ = some (.bool (rd_T67 xs i).f1.f2.f4) ∧ w.cell? ⟨(ad.add (i.toNat * 21)).block, (ad.add (i.toNat * 21)).off + 13, none⟩ = some (.string (rd_T67 xs i).f1.f3.f0) ∧ w.cell? ⟨(ad.add (i.toNat * 21)).block, (ad.add (i.toNat * 21)).off + 14, none⟩ = some (.int .i64 (rd_T67 xs i).f1.f3.f1) ∧ w.cell? ⟨(ad.add (i.toNat * 21)).block, (ad.add (i.toNat * 21)).off + 15, none⟩ = some (.int .i64 (rd_T67 xs i).f1.f3.f2) ∧ w.cell? ⟨(ad.add (i.toNat * 21)).block, (ad.add (i.toNat * 21)).off + 16, none⟩ = some (.bool (rd_T67 xs i).f1.f3.f3) ∧ w.cell? ⟨(ad.add (i.toNat * 21)).block, (ad.add (i.toNat * 21)).off + 17, none⟩ = some (.bool (rd_T67 xs i).f1.f3.f4) ∧ w.cell? ⟨(ad.add (i.toNat * 21)).block, (ad.add (i.toNat * 21)).off + 18, none⟩ = some (.string (rd_T67 xs i).f1.f4) ∧ w.cell? ⟨(ad.add (i.toNat * 21)).block, (ad.add (i.toNat * 21)).off + 19, none⟩ = some (.int .i64 (rd_T67 xs i).f1.f5) ∧ w.cell? ⟨(ad.add (i.toNat * 21)).block, (ad.add (i.toNat * 21)).off + 20, none⟩ = some (.slice A20 (rd_T67 xs i).f1.f6.length c20) ∧ (rd_T67 xs i).f1.f6.length ≤ c20 ∧ k35.C w A20 (rd_T67 xs i).f1.f6.length (rd_T67 xs i).f1.f6 := by
  obtain ⟨ad, c, e, _, hK, hc0⟩ := Kd.C_get h z67 i h0 h1
  have hc : ∀ j u, c[j]? = some u → w.cell? (ad.add (i.toNat * 21 + j)) = some u := hc0
  obtain ⟨A20, c20, rfl, l20, g20⟩ := k67_open hK
  exact ⟨ad, A20, c20, e, hc 0 _ rfl, by rw [← add_field _ _ 1 (by omega)]; exact hc 1 _ rfl, by rw [← add_field _ _ 2 (by omega)]; exact hc 2 _ rfl, by rw [← add_field _ _ 3 (by omega)]; exact hc 3 _ rfl, by rw [← add_field _ _ 4 (by omega)]; exact hc 4 _ rfl, by rw [← add_field _ _ 5 (by omega)]; exact hc 5 _ rfl, by rw [← add_field _ _ 6 (by omega)]; exact hc 6 _ rfl, by rw [← add_field _ _ 7 (by omega)]; exact hc 7 _ rfl, by rw [← add_field _ _ 8 (by omega)]; exact hc 8 _ rfl, by rw [← add_field _ _ 9 (by omega)]; exact hc 9 _ rfl, by rw [← add_field _ _ 10 (by omega)]; exact hc 10 _ rfl, by rw [← add_field _ _ 11 (by omega)]; exact hc 11 _ rfl, by rw [← add_field _ _ 12 (by omega)]; exact hc 12 _ rfl, by rw [← add_field _ _ 13 (by omega)]; exact hc 13 _ rfl, by rw [← add_field _ _ 14 (by omega)]; exact hc 14 _ rfl, by rw [← add_field _ _ 15 (by omega)]; exact hc 15 _ rfl, by rw [← add_field _ _ 16 (by omega)]; exact hc 16 _ rfl, by rw [← add_field _ _ 17 (by omega)]; exact hc 17 _ rfl, by rw [← add_field _ _ 18 (by omega)]; exact hc 18 _ rfl, by rw [← add_field _ _ 19 (by omega)]; exact hc 19 _ rfl, by rw [← add_field _ _ 20 (by omega)]; exact hc 20 _ rfl, l20, g20⟩
end Go.Proofs.YtnafcjaddnkioaaGreatDoor.PLooks
end
